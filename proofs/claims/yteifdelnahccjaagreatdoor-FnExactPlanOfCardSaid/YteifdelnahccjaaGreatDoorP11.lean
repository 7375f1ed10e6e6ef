import Derived.Test.YteifdelnahccjaaGreatDoorRows
import Derived.ProofKit
import Derived.ClosedOfChecked
import Derived.Deep.DeepHandedRow
import Derived.Test.YteifdelnahccjaaGreatDoorCards
import Derived.Test.YteifdelnahccjaaGreatDoorP10
namespace Go.Proofs.YteifdelnahccjaaGreatDoor
open Go.V
set_option linter.unusedVariables false
set_option linter.unusedSimpArgs false
set_option maxRecDepth 20000
set_option maxHeartbeats 4000000
theorem one1 {i j : Nat} {x b : Blk} (hb : app [(i, some x)] (fun _ => none) j = some b) : j = i ∧ b = x := by
 rw [V.appC, V.app0] at hb
 by_cases hj : j = i
 ·subst hj; rw [V.upd_same] at hb; exact ⟨rfl, (Option.some.inj hb).symm⟩
 ·rw [V.upd_ne _ _ hj] at hb; cases hb
theorem o65 (n vw : Int) (hn : nodes n) (L : List Msg) (b : Bool) (hpo : planOK n vw L) (hne : plO n vw L ≠ []) : ∃ x : Nat × Nat, True ∧ V.Open En 65 ([A.one (.int .i64 n), A.one (.int .i64 vw), A.one (.sl b (L.map Msg.T))].map (A.toV false)) (fun _ => none) 0 (.tup [.view x.1 0 (plO n vw L).length, .int .i64 0]) [(x.1, some ⟨(plO n vw L).map tV, 1, 9⟩)] x.2 := by
 have hl : (L.map Msg.T).length = L.length := List.length_map ..
 have hq := I5 hn
 refine V.Open.of_evX (st := [18, 27]) Tryz.func65 rfl kb ?_
 refine B7 (s140 n hn) rfl rfl rfl ?_
 refine br ?_ ?_ <;> intro h1_4
 ·have hno : ¬ planOK n vw L := fun e => by have := e.1; omega
  exact absurd hpo hno
 ·refine emk (s' := 40) j6 kz ?_ ?_ ?_
  ·(first | omega | assumption | decide)
  ·(first | omega | assumption | decide)
  refine wlG fun g0 hg0 => ?_
  refine A7 (fun (a : QS) => [.int .i64 n, .int .i64 vw, .sl false b (L.map Msg.T), .unk, .unk, .unk, .unk, .unk, .view 0 0 9, .int .i64 (plS n L a.i).last, .unk, .unk, .unk, .unk, .unk, .unk, .unk, .unk, .unk, .unk, .unk, .unk, .unk, .unk, .unk, .unk, .sl false b (L.map Msg.T), .int .i64 (L.map Msg.T).length, .int .i64 a.i]) (fun (a : QS) => a.g) (fun (a : QS) => a.m) (fun (a : QS) => QI n vw L a) (fun (a : QS) => L.length - a.i) ⟨0, 1, g0⟩ ?_ ?_ ?_ ?_ ?_
  ·refine ⟨Nat.zero_le _, ?_, Nat.le_refl _, K9⟩
   dsimp only; rw [hg0]; exact Q0
  ·(repeat first | exact LE.nil _ | refine LE.unk _ _ ?_ | refine LE.eq _ _ _ rfl ?_)
  ·exact LessH.refl _
  ·exact Nat.le_refl _
  intro ⟨i, m, g⟩ hI ih
  have q0 := hI.il
  have hg0 := hI.g0
  have q4 := hI.mm
  have hok := hI.ok
  have hO := hI
  have ihO := ih
  unfold BB at hg0
  dsimp only at q0 hg0 q4 hok ⊢
  refine A6 (st := [18, 27]) ?_
  refine br ?_ ?_ <;> intro h6_0
  ·(refine A5 (D5 (by first | rfl | assumption | exact Q12) rfl ?_))
   (apply est (u := .agg [.int _ _, .int _ _, .int _ _, .int _ _, .str _, .str _, .str _]) j3; exact Q0; exact Q5; exact j4; exact kb; rfl)
   (apply C2 (vs := [.int _ _, .int _ _, .int _ _, .int _ _, .str _, .str _, .str _]) j2; exact Q0; exact Q5; rfl; exact kb; rfl)
   refine B7 (s70 n (L.getD i Msg0)) rfl rfl rfl ?_
   refine brB ?_ ?_ <;> intro h8_5
   ·refine A4 ?_ (by exact Q0) (by exact Q5)
    refine br ?_ ?_ <;> intro h9_6
    ·have hno : ¬ planOK n vw L := fun e => by
      obtain ⟨e1, e2, e3⟩ := e.2 i (by omega)
      first
      | exact absurd e1 (of_decide_eq_false h8_5)
      | omega
      | (have := e3 (by omega); omega)
     exact absurd hpo hno
    ·refine br ?_ ?_ <;> intro h9_10
     ·refine A5 ?_
      (refine A5 (D5 (by first | rfl | assumption | exact Q12) rfl ?_))
      refine A4 ?_ (by exact Q0) (by exact Q5)
      refine br ?_ ?_ <;> intro h9_20
      ·have hno : ¬ planOK n vw L := fun e => by
        obtain ⟨e1, e2, e3⟩ := e.2 i (by omega)
        first
        | exact absurd e1 (of_decide_eq_false h8_5)
        | omega
        | (have := e3 (by omega); omega)
       exact absurd hpo hno
      ·have hc8 := K4 n (L.getD i Msg0)
       have hlc : ((vcO n (L.getD i Msg0)).map (Ct.T false)).length = (vcO n (L.getD i Msg0)).length := List.length_map ..
       refine wlG fun g1 hg1 => ?_
       refine A7 (fun (a : QS) => [.int .i64 n, .int .i64 vw, .sl false b (L.map Msg.T), .unk, .unk, .unk, .unk, .unk, .view 0 0 9, .int .i64 (rnS (plS n L i) (vcO n (L.getD i Msg0)) a.i).last, .unk, .unk, .unk, .unk, .unk, .unk, .unk, .unk, .unk, .unk, .unk, .unk, .unk, .unk, .unk, .unk, .sl false b (L.map Msg.T), .int .i64 (L.map Msg.T).length, .int .i64 i, .unk, .unk, .unk, .unk, .unk, .unk, .unk, .unk, .unk, .unk, .unk, .unk, .unk, .unk, .unk, .unk, .unk, .unk, .unk, .unk, .unk, .unk, .unk, .unk, .unk, .unk, .unk, .unk, .unk, .unk, .unk, .unk, .unk, .sl true false ((vcO n (L.getD i Msg0)).map (Ct.T false)), .int .i64 ((vcO n (L.getD i Msg0)).map (Ct.T false)).length, .int .i64 a.i]) (fun (a : QS) => a.g) (fun (a : QS) => a.m) (fun (a : QS) => RI (plS n L i) (vcO n (L.getD i Msg0)) a) (fun (a : QS) => (vcO n (L.getD i Msg0)).length - a.i) ⟨0, m + 1, g1⟩ ?_ ?_ ?_ ?_ ?_
       ·refine ⟨Nat.zero_le _, ?_, by dsimp only; omega⟩
        dsimp only; rw [hg1]; exact Q0
       ·(repeat first | exact LE.nil _ | refine LE.unk _ _ ?_ | refine LE.eq _ _ _ rfl ?_)
       ·exact LessH.refl _
       ·exact Nat.le_refl _
       intro ⟨k, m2, g2⟩ hI ih
       have r0 := hI.il
       have hg2 := hI.g0
       have r4 := hI.mm
       unfold BB at hg2
       dsimp only at r0 hg2 r4 ⊢
       have hpg := PlG.rn (PlG.pl n L i) (C0 n (L.getD i Msg0)) k r0
       have hp9 := hpg.len
       have hl9 : ((rnS (plS n L i) (vcO n (L.getD i Msg0)) k).B.map rowB).length = 9 := by rw [List.length_map]; exact hp9
       by_cases hz : ((rnS (plS n L i) (vcO n (L.getD i Msg0)) k).B.getD ((vcO n (L.getD i Msg0)).getD k Ct0).sq.toNat Ct0).ps.length = 0
       ·skip
        skip
        refine A6 (st := [18, 27]) ?_
        refine br ?_ ?_ <;> intro h12_0
        ·have hkl : k < (vcO n (L.getD i Msg0)).length := by omega
         have hgd := C0 n (L.getD i Msg0) k hkl
         have hgd2 := hgd.2
         have hrow : ((rnS (plS n L i) (vcO n (L.getD i Msg0)) k).B.map rowB)[0 + ((vcO n (L.getD i Msg0)).getD k Ct0).sq.toNat]? = some (rowB ((rnS (plS n L i) (vcO n (L.getD i Msg0)) k).B.getD ((vcO n (L.getD i Msg0)).getD k Ct0).sq.toNat Ct0)) := by rw [Nat.zero_add]; exact D1 (by omega)
         rw [J7 hz] at hrow
         (refine A5 (D5 (by first | rfl | assumption | exact Q12) rfl ?_))
         (apply est (u := .agg [.str _, _]) j3; exact Q0; exact Q5; exact j4; exact kb; rfl)
         (apply C2 (vs := [.str _, _]) j2; exact Q0; exact Q5; rfl; exact kb; rfl)
         refine B7 (S7 ((vcO n (L.getD i Msg0)).getD k Ct0) false hgd.1) rfl rfl rfl ?_
         (apply C2 (vs := [.str _, _]) j2; exact Q0; exact Q5; rfl; exact kb; rfl)
         refine B7 (S7 ((vcO n (L.getD i Msg0)).getD k Ct0) false hgd.1) rfl rfl rfl ?_
         (refine C8 (by exact Q0) ⟨rfl, A5 ?_⟩)
         (apply C2 (vs := [.str _, _]) j2; exact Q0; exact Q5; rfl; exact kb; rfl)
         (apply est (u := .agg [.str _, _]) j3; exact Q0; exact Q5; exact j4; exact kb; rfl)
         refine A4 ?_ (by exact Q0) (by exact Q5)
         refine br ?_ (fun h => absurd (rfl) h)
         intro h16_3
         (apply C2 (vs := [.str _, _]) j2; exact Q0; exact Q5; rfl; exact kb; rfl)
         refine B7 (S7 ((vcO n (L.getD i Msg0)).getD k Ct0) false hgd.1) rfl rfl rfl ?_
         (apply C2 (vs := [.str _, _]) j2; exact Q0; exact Q5; rfl; exact kb; rfl)
         (refine C8 (by exact Q0) ⟨rfl, A5 ?_⟩)
         (apply est (u := .agg [.str _, _]) j3; exact Q0; exact Q5; exact j4; exact kb; rfl)
         refine E7 ?_
         refine F1 fun G hG => ?_
         refine A5 ?_
         first
         | (refine C6 (ih ⟨k + 1, m2 + 1 + 1, G⟩ ⟨by dsimp only; omega, ?_, by dsimp only; omega⟩ (by dsimp only; omega)) (by (repeat first | exact LE.nil _ | refine LE.unk _ _ ?_ | refine LE.eq _ _ _ rfl ?_)) (LessH.refl _) (Nat.le_refl _)
            dsimp only
            show G 0 = some ⟨((rnS (plS n L i) (vcO n (L.getD i Msg0)) k).step ((vcO n (L.getD i Msg0)).getD k Ct0)).B.map rowB, 2, 44⟩
            first
            | (rw [D8 (by first | exact .inl hz | exact .inr (by omega)), D4 _ _ hgd.1, hG]; (simp (disch := omega) only [↓app0, ↓appC, ↓updS, ↓updN, Nat.zero_add]); rfl)
            | (rw [F0 (by rintro (e | e) <;> omega), hG]; exact Q0))
        ·refine A5 ?_
         have hip : okP n vw L i := ⟨of_decide_eq_true h8_5, by omega, fun _ => by omega⟩
         obtain rfl : k = (vcO n (L.getD i Msg0)).length := by omega
         refine C6 (ihO ⟨i + 1, m2, g2⟩ ⟨by dsimp only; omega, hI.g0, hI.mm, fun j hj => ?_⟩ (by dsimp only; omega)) (by (repeat first | exact LE.nil _ | refine LE.unk _ _ ?_ | refine LE.eq _ _ _ rfl ?_)) (LessH.refl _) (Nat.le_refl _)
         rcases Nat.lt_succ_iff_lt_or_eq.1 hj with q | q
         ·exact hok j q
         ·rw [q]; exact hip
       ·skip
        skip
        refine A6 (st := [18, 27]) ?_
        refine br ?_ ?_ <;> intro h12_0
        ·have hkl : k < (vcO n (L.getD i Msg0)).length := by omega
         have hgd := C0 n (L.getD i Msg0) k hkl
         have hgd2 := hgd.2
         have hrow : ((rnS (plS n L i) (vcO n (L.getD i Msg0)) k).B.map rowB)[0 + ((vcO n (L.getD i Msg0)).getD k Ct0).sq.toNat]? = some (rowB ((rnS (plS n L i) (vcO n (L.getD i Msg0)) k).B.getD ((vcO n (L.getD i Msg0)).getD k Ct0).sq.toNat Ct0)) := by rw [Nat.zero_add]; exact D1 (by omega)
         rw [I9 (Nat.pos_of_ne_zero hz)] at hrow
         have hop := Nat.pos_of_ne_zero hz
         have hlo : (((rnS (plS n L i) (vcO n (L.getD i Msg0)) k).B.getD ((vcO n (L.getD i Msg0)).getD k Ct0).sq.toNat Ct0).ps.map Msg.T).length = ((rnS (plS n L i) (vcO n (L.getD i Msg0)) k).B.getD ((vcO n (L.getD i Msg0)).getD k Ct0).sq.toNat Ct0).ps.length := List.length_map ..
         (refine A5 (D5 (by first | rfl | assumption | exact Q12) rfl ?_))
         (apply est (u := .agg [.str _, _]) j3; exact Q0; exact Q5; exact j4; exact kb; rfl)
         (apply C2 (vs := [.str _, _]) j2; exact Q0; exact Q5; rfl; exact kb; rfl)
         refine B7 (S7 ((vcO n (L.getD i Msg0)).getD k Ct0) false hgd.1) rfl rfl rfl ?_
         (apply C2 (vs := [.str _, _]) j2; exact Q0; exact Q5; rfl; exact kb; rfl)
         refine B7 (S7 ((vcO n (L.getD i Msg0)).getD k Ct0) false hgd.1) rfl rfl rfl ?_
         (refine C8 (by exact Q0) ⟨rfl, A5 ?_⟩)
         (apply C2 (vs := [.str _, _]) j2; exact Q0; exact Q5; rfl; exact kb; rfl)
         (apply est (u := .agg [.str _, _]) j3; exact Q0; exact Q5; exact j4; exact kb; rfl)
         refine A4 ?_ (by exact Q0) (by exact Q5)
         refine br (fun h => absurd h ((by omega))) ?_
         intro h16_3
         (apply C2 (vs := [.str _, _]) j2; exact Q0; exact Q5; rfl; exact kb; rfl)
         refine B7 (s85 ((rnS (plS n L i) (vcO n (L.getD i Msg0)) k).B.getD ((vcO n (L.getD i Msg0)).getD k Ct0).sq.toNat Ct0) false hop) rfl rfl rfl ?_
         (apply C2 (vs := [.str _, _]) j2; exact Q0; exact Q5; rfl; exact kb; rfl)
         refine B7 (s85 ((vcO n (L.getD i Msg0)).getD k Ct0) false hgd.1) rfl rfl rfl ?_
         refine br ?_ ?_ <;> intro h16_9
         ·(apply C2 (vs := [.str _, _]) j2; exact Q0; exact Q5; rfl; exact kb; rfl)
          refine B7 (S7 ((vcO n (L.getD i Msg0)).getD k Ct0) false hgd.1) rfl rfl rfl ?_
          (apply C2 (vs := [.str _, _]) j2; exact Q0; exact Q5; rfl; exact kb; rfl)
          (refine C8 (by exact Q0) ⟨rfl, A5 ?_⟩)
          (apply est (u := .agg [.str _, _]) j3; exact Q0; exact Q5; exact j4; exact kb; rfl)
          refine E7 ?_
          refine F1 fun G hG => ?_
          refine A5 ?_
          first
          | (refine C6 (ih ⟨k + 1, m2 + 1 + 1, G⟩ ⟨by dsimp only; omega, ?_, by dsimp only; omega⟩ (by dsimp only; omega)) (by (repeat first | exact LE.nil _ | refine LE.unk _ _ ?_ | refine LE.eq _ _ _ rfl ?_)) (LessH.refl _) (Nat.le_refl _)
             dsimp only
             show G 0 = some ⟨((rnS (plS n L i) (vcO n (L.getD i Msg0)) k).step ((vcO n (L.getD i Msg0)).getD k Ct0)).B.map rowB, 2, 44⟩
             first
             | (rw [D8 (by first | exact .inl hz | exact .inr (by omega)), D4 _ _ hgd.1, hG]; (simp (disch := omega) only [↓app0, ↓appC, ↓updS, ↓updN, Nat.zero_add]); rfl)
             | (rw [F0 (by rintro (e | e) <;> omega), hG]; exact Q0))
         ·refine F1 fun G hG => ?_
          refine A5 ?_
          first
          | (refine C6 (ih ⟨k + 1, m2 + 1 + 1, G⟩ ⟨by dsimp only; omega, ?_, by dsimp only; omega⟩ (by dsimp only; omega)) (by (repeat first | exact LE.nil _ | refine LE.unk _ _ ?_ | refine LE.eq _ _ _ rfl ?_)) (LessH.refl _) (Nat.le_refl _)
             dsimp only
             show G 0 = some ⟨((rnS (plS n L i) (vcO n (L.getD i Msg0)) k).step ((vcO n (L.getD i Msg0)).getD k Ct0)).B.map rowB, 2, 44⟩
             first
             | (rw [D8 (by first | exact .inl hz | exact .inr (by omega)), D4 _ _ hgd.1, hG]; (simp (disch := omega) only [↓app0, ↓appC, ↓updS, ↓updN, Nat.zero_add]); rfl)
             | (rw [F0 (by rintro (e | e) <;> omega), hG]; exact Q0))
        ·refine A5 ?_
         have hip : okP n vw L i := ⟨of_decide_eq_true h8_5, by omega, fun _ => by omega⟩
         obtain rfl : k = (vcO n (L.getD i Msg0)).length := by omega
         refine C6 (ihO ⟨i + 1, m2, g2⟩ ⟨by dsimp only; omega, hI.g0, hI.mm, fun j hj => ?_⟩ (by dsimp only; omega)) (by (repeat first | exact LE.nil _ | refine LE.unk _ _ ?_ | refine LE.eq _ _ _ rfl ?_)) (LessH.refl _) (Nat.le_refl _)
         rcases Nat.lt_succ_iff_lt_or_eq.1 hj with q | q
         ·exact hok j q
         ·rw [q]; exact hip
     ·have hc8 := K4 n (L.getD i Msg0)
      have hlc : ((vcO n (L.getD i Msg0)).map (Ct.T false)).length = (vcO n (L.getD i Msg0)).length := List.length_map ..
      refine wlG fun g1 hg1 => ?_
      refine A7 (fun (a : QS) => [.int .i64 n, .int .i64 vw, .sl false b (L.map Msg.T), .unk, .unk, .unk, .unk, .unk, .view 0 0 9, .int .i64 (rnS (plS n L i) (vcO n (L.getD i Msg0)) a.i).last, .unk, .unk, .unk, .unk, .unk, .unk, .unk, .unk, .unk, .unk, .unk, .unk, .unk, .unk, .unk, .unk, .sl false b (L.map Msg.T), .int .i64 (L.map Msg.T).length, .int .i64 i, .unk, .unk, .unk, .unk, .unk, .unk, .unk, .unk, .unk, .unk, .unk, .unk, .unk, .unk, .unk, .unk, .unk, .unk, .unk, .unk, .unk, .unk, .unk, .unk, .unk, .unk, .unk, .unk, .unk, .unk, .unk, .unk, .unk, .sl true false ((vcO n (L.getD i Msg0)).map (Ct.T false)), .int .i64 ((vcO n (L.getD i Msg0)).map (Ct.T false)).length, .int .i64 a.i]) (fun (a : QS) => a.g) (fun (a : QS) => a.m) (fun (a : QS) => RI (plS n L i) (vcO n (L.getD i Msg0)) a) (fun (a : QS) => (vcO n (L.getD i Msg0)).length - a.i) ⟨0, m + 1, g1⟩ ?_ ?_ ?_ ?_ ?_
      ·refine ⟨Nat.zero_le _, ?_, by dsimp only; omega⟩
       dsimp only; rw [hg1]; exact Q0
      ·(repeat first | exact LE.nil _ | refine LE.unk _ _ ?_ | refine LE.eq _ _ _ rfl ?_)
      ·exact LessH.refl _
      ·exact Nat.le_refl _
      intro ⟨k, m2, g2⟩ hI ih
      have r0 := hI.il
      have hg2 := hI.g0
      have r4 := hI.mm
      unfold BB at hg2
      dsimp only at r0 hg2 r4 ⊢
      have hpg := PlG.rn (PlG.pl n L i) (C0 n (L.getD i Msg0)) k r0
      have hp9 := hpg.len
      have hl9 : ((rnS (plS n L i) (vcO n (L.getD i Msg0)) k).B.map rowB).length = 9 := by rw [List.length_map]; exact hp9
      by_cases hz : ((rnS (plS n L i) (vcO n (L.getD i Msg0)) k).B.getD ((vcO n (L.getD i Msg0)).getD k Ct0).sq.toNat Ct0).ps.length = 0
      ·skip
       skip
       refine A6 (st := [18, 27]) ?_
       refine br ?_ ?_ <;> intro h12_0
       ·have hkl : k < (vcO n (L.getD i Msg0)).length := by omega
        have hgd := C0 n (L.getD i Msg0) k hkl
        have hgd2 := hgd.2
        have hrow : ((rnS (plS n L i) (vcO n (L.getD i Msg0)) k).B.map rowB)[0 + ((vcO n (L.getD i Msg0)).getD k Ct0).sq.toNat]? = some (rowB ((rnS (plS n L i) (vcO n (L.getD i Msg0)) k).B.getD ((vcO n (L.getD i Msg0)).getD k Ct0).sq.toNat Ct0)) := by rw [Nat.zero_add]; exact D1 (by omega)
        rw [J7 hz] at hrow
        (refine A5 (D5 (by first | rfl | assumption | exact Q12) rfl ?_))
        (apply est (u := .agg [.str _, _]) j3; exact Q0; exact Q5; exact j4; exact kb; rfl)
        (apply C2 (vs := [.str _, _]) j2; exact Q0; exact Q5; rfl; exact kb; rfl)
        refine B7 (S7 ((vcO n (L.getD i Msg0)).getD k Ct0) false hgd.1) rfl rfl rfl ?_
        (apply C2 (vs := [.str _, _]) j2; exact Q0; exact Q5; rfl; exact kb; rfl)
        refine B7 (S7 ((vcO n (L.getD i Msg0)).getD k Ct0) false hgd.1) rfl rfl rfl ?_
        (refine C8 (by exact Q0) ⟨rfl, A5 ?_⟩)
        (apply C2 (vs := [.str _, _]) j2; exact Q0; exact Q5; rfl; exact kb; rfl)
        (apply est (u := .agg [.str _, _]) j3; exact Q0; exact Q5; exact j4; exact kb; rfl)
        refine A4 ?_ (by exact Q0) (by exact Q5)
        refine br ?_ (fun h => absurd (rfl) h)
        intro h16_3
        (apply C2 (vs := [.str _, _]) j2; exact Q0; exact Q5; rfl; exact kb; rfl)
        refine B7 (S7 ((vcO n (L.getD i Msg0)).getD k Ct0) false hgd.1) rfl rfl rfl ?_
        (apply C2 (vs := [.str _, _]) j2; exact Q0; exact Q5; rfl; exact kb; rfl)
        (refine C8 (by exact Q0) ⟨rfl, A5 ?_⟩)
        (apply est (u := .agg [.str _, _]) j3; exact Q0; exact Q5; exact j4; exact kb; rfl)
        refine E7 ?_
        refine F1 fun G hG => ?_
        refine A5 ?_
        first
        | (refine C6 (ih ⟨k + 1, m2 + 1 + 1, G⟩ ⟨by dsimp only; omega, ?_, by dsimp only; omega⟩ (by dsimp only; omega)) (by (repeat first | exact LE.nil _ | refine LE.unk _ _ ?_ | refine LE.eq _ _ _ rfl ?_)) (LessH.refl _) (Nat.le_refl _)
           dsimp only
           show G 0 = some ⟨((rnS (plS n L i) (vcO n (L.getD i Msg0)) k).step ((vcO n (L.getD i Msg0)).getD k Ct0)).B.map rowB, 2, 44⟩
           first
           | (rw [D8 (by first | exact .inl hz | exact .inr (by omega)), D4 _ _ hgd.1, hG]; (simp (disch := omega) only [↓app0, ↓appC, ↓updS, ↓updN, Nat.zero_add]); rfl)
           | (rw [F0 (by rintro (e | e) <;> omega), hG]; exact Q0))
       ·refine A5 ?_
        have hip : okP n vw L i := ⟨of_decide_eq_true h8_5, by omega, fun _ => by omega⟩
        obtain rfl : k = (vcO n (L.getD i Msg0)).length := by omega
        refine C6 (ihO ⟨i + 1, m2, g2⟩ ⟨by dsimp only; omega, hI.g0, hI.mm, fun j hj => ?_⟩ (by dsimp only; omega)) (by (repeat first | exact LE.nil _ | refine LE.unk _ _ ?_ | refine LE.eq _ _ _ rfl ?_)) (LessH.refl _) (Nat.le_refl _)
        rcases Nat.lt_succ_iff_lt_or_eq.1 hj with q | q
        ·exact hok j q
        ·rw [q]; exact hip
      ·skip
       skip
       refine A6 (st := [18, 27]) ?_
       refine br ?_ ?_ <;> intro h12_0
       ·have hkl : k < (vcO n (L.getD i Msg0)).length := by omega
        have hgd := C0 n (L.getD i Msg0) k hkl
        have hgd2 := hgd.2
        have hrow : ((rnS (plS n L i) (vcO n (L.getD i Msg0)) k).B.map rowB)[0 + ((vcO n (L.getD i Msg0)).getD k Ct0).sq.toNat]? = some (rowB ((rnS (plS n L i) (vcO n (L.getD i Msg0)) k).B.getD ((vcO n (L.getD i Msg0)).getD k Ct0).sq.toNat Ct0)) := by rw [Nat.zero_add]; exact D1 (by omega)
        rw [I9 (Nat.pos_of_ne_zero hz)] at hrow
        have hop := Nat.pos_of_ne_zero hz
        have hlo : (((rnS (plS n L i) (vcO n (L.getD i Msg0)) k).B.getD ((vcO n (L.getD i Msg0)).getD k Ct0).sq.toNat Ct0).ps.map Msg.T).length = ((rnS (plS n L i) (vcO n (L.getD i Msg0)) k).B.getD ((vcO n (L.getD i Msg0)).getD k Ct0).sq.toNat Ct0).ps.length := List.length_map ..
        (refine A5 (D5 (by first | rfl | assumption | exact Q12) rfl ?_))
        (apply est (u := .agg [.str _, _]) j3; exact Q0; exact Q5; exact j4; exact kb; rfl)
        (apply C2 (vs := [.str _, _]) j2; exact Q0; exact Q5; rfl; exact kb; rfl)
        refine B7 (S7 ((vcO n (L.getD i Msg0)).getD k Ct0) false hgd.1) rfl rfl rfl ?_
        (apply C2 (vs := [.str _, _]) j2; exact Q0; exact Q5; rfl; exact kb; rfl)
        refine B7 (S7 ((vcO n (L.getD i Msg0)).getD k Ct0) false hgd.1) rfl rfl rfl ?_
        (refine C8 (by exact Q0) ⟨rfl, A5 ?_⟩)
        (apply C2 (vs := [.str _, _]) j2; exact Q0; exact Q5; rfl; exact kb; rfl)
        (apply est (u := .agg [.str _, _]) j3; exact Q0; exact Q5; exact j4; exact kb; rfl)
        refine A4 ?_ (by exact Q0) (by exact Q5)
        refine br (fun h => absurd h ((by omega))) ?_
        intro h16_3
        (apply C2 (vs := [.str _, _]) j2; exact Q0; exact Q5; rfl; exact kb; rfl)
        refine B7 (s85 ((rnS (plS n L i) (vcO n (L.getD i Msg0)) k).B.getD ((vcO n (L.getD i Msg0)).getD k Ct0).sq.toNat Ct0) false hop) rfl rfl rfl ?_
        (apply C2 (vs := [.str _, _]) j2; exact Q0; exact Q5; rfl; exact kb; rfl)
        refine B7 (s85 ((vcO n (L.getD i Msg0)).getD k Ct0) false hgd.1) rfl rfl rfl ?_
        refine br ?_ ?_ <;> intro h16_9
        ·(apply C2 (vs := [.str _, _]) j2; exact Q0; exact Q5; rfl; exact kb; rfl)
         refine B7 (S7 ((vcO n (L.getD i Msg0)).getD k Ct0) false hgd.1) rfl rfl rfl ?_
         (apply C2 (vs := [.str _, _]) j2; exact Q0; exact Q5; rfl; exact kb; rfl)
         (refine C8 (by exact Q0) ⟨rfl, A5 ?_⟩)
         (apply est (u := .agg [.str _, _]) j3; exact Q0; exact Q5; exact j4; exact kb; rfl)
         refine E7 ?_
         refine F1 fun G hG => ?_
         refine A5 ?_
         first
         | (refine C6 (ih ⟨k + 1, m2 + 1 + 1, G⟩ ⟨by dsimp only; omega, ?_, by dsimp only; omega⟩ (by dsimp only; omega)) (by (repeat first | exact LE.nil _ | refine LE.unk _ _ ?_ | refine LE.eq _ _ _ rfl ?_)) (LessH.refl _) (Nat.le_refl _)
            dsimp only
            show G 0 = some ⟨((rnS (plS n L i) (vcO n (L.getD i Msg0)) k).step ((vcO n (L.getD i Msg0)).getD k Ct0)).B.map rowB, 2, 44⟩
            first
            | (rw [D8 (by first | exact .inl hz | exact .inr (by omega)), D4 _ _ hgd.1, hG]; (simp (disch := omega) only [↓app0, ↓appC, ↓updS, ↓updN, Nat.zero_add]); rfl)
            | (rw [F0 (by rintro (e | e) <;> omega), hG]; exact Q0))
        ·refine F1 fun G hG => ?_
         refine A5 ?_
         first
         | (refine C6 (ih ⟨k + 1, m2 + 1 + 1, G⟩ ⟨by dsimp only; omega, ?_, by dsimp only; omega⟩ (by dsimp only; omega)) (by (repeat first | exact LE.nil _ | refine LE.unk _ _ ?_ | refine LE.eq _ _ _ rfl ?_)) (LessH.refl _) (Nat.le_refl _)
            dsimp only
            show G 0 = some ⟨((rnS (plS n L i) (vcO n (L.getD i Msg0)) k).step ((vcO n (L.getD i Msg0)).getD k Ct0)).B.map rowB, 2, 44⟩
            first
            | (rw [D8 (by first | exact .inl hz | exact .inr (by omega)), D4 _ _ hgd.1, hG]; (simp (disch := omega) only [↓app0, ↓appC, ↓updS, ↓updN, Nat.zero_add]); rfl)
            | (rw [F0 (by rintro (e | e) <;> omega), hG]; exact Q0))
       ·refine A5 ?_
        have hip : okP n vw L i := ⟨of_decide_eq_true h8_5, by omega, fun _ => by omega⟩
        obtain rfl : k = (vcO n (L.getD i Msg0)).length := by omega
        refine C6 (ihO ⟨i + 1, m2, g2⟩ ⟨by dsimp only; omega, hI.g0, hI.mm, fun j hj => ?_⟩ (by dsimp only; omega)) (by (repeat first | exact LE.nil _ | refine LE.unk _ _ ?_ | refine LE.eq _ _ _ rfl ?_)) (LessH.refl _) (Nat.le_refl _)
        rcases Nat.lt_succ_iff_lt_or_eq.1 hj with q | q
        ·exact hok j q
        ·rw [q]; exact hip
   ·have hno : ¬ planOK n vw L := fun e => by
     obtain ⟨e1, e2, e3⟩ := e.2 i (by omega)
     first
     | exact absurd e1 (of_decide_eq_false h8_5)
     | omega
     | (have := e3 (by omega); omega)
    exact absurd hpo hno
  ·obtain rfl : i = L.length := by omega
   have hpg := PlG.pl n L L.length
   have hp9 := hpg.len
   have hl9 : ((plS n L L.length).B.map rowB).length = 9 := by rw [List.length_map]; exact hp9
   have hlo9 := hpg.lo
   have hhi9 := hpg.hi
   refine A5 ?_
   (apply eslv j3; exact Q0; exact j3; (first | omega | assumption | decide); (first | omega | assumption | decide); (first | omega | assumption | decide))
   refine A7 (fun (a : US) => [.unk, .unk, .unk, .unk, .unk, .unk, .unk, .unk, .unk, .unk, .unk, .unk, .unk, .unk, .unk, .unk, .unk, a.o, .unk, .unk, .unk, .unk, .unk, .unk, .unk, .unk, .unk, .unk, .unk, .unk, .unk, .unk, .unk, .unk, .unk, .unk, .unk, .unk, .unk, .unk, .unk, .unk, .unk, .unk, .unk, .unk, .unk, .unk, .unk, .unk, .unk, .unk, .unk, .unk, .unk, .unk, .unk, .unk, .unk, .unk, .unk, .unk, .unk, .unk, .unk, .unk, .unk, .unk, .unk, .unk, .unk, .unk, .unk, .unk, .unk, .unk, .unk, .unk, .unk, .unk, .unk, .unk, .unk, .unk, .unk, .unk, .unk, .unk, .unk, .unk, .unk, .unk, .unk, .unk, .unk, .unk, .unk, .unk, .view 0 1 (((plS n L L.length).last + 1).toNat - 1), .int .i64 (((plS n L L.length).last + 1).toNat - 1 : Nat), .int .i64 a.i]) (fun (a : US) => a.g) (fun (a : US) => a.m) (fun (a : US) => UI (plS n L L.length) a) (fun (a : US) => ((plS n L L.length).last + 1 - 1).toNat - a.i) ⟨0, .nsl, 0, m, g⟩ ?_ ?_ ?_ ?_ ?_
   ·exact ⟨Nat.zero_le _, hI.g0, hI.mm, .inl ⟨rfl, rfl⟩⟩
   ·(repeat first | exact LE.nil _ | refine LE.unk _ _ ?_ | refine LE.eq _ _ _ rfl ?_)
   ·exact LessH.refl _
   ·exact Nat.le_refl _
   intro ⟨k, o, bb, m, g3⟩ hI ih
   have r0 := hI.il
   have hg3 := hI.g0
   have r4 := hI.mm
   unfold BB at hg3
   dsimp only at r0 hg3 r4 ⊢
   have hrl := N9 (plS n L L.length) k
   have hl9b : ((plS n L L.length).B.map rowB).length = 9 := by rw [List.length_map]; exact hp9
   by_cases hz : ((plS n L L.length).B.getD (k + 1) Ct0).ps.length = 0
   all_goals rcases hI.out with ⟨e0, e1⟩ | ⟨e1, hbO2, hbO⟩
   all_goals dsimp only at e1
   ·skip
    obtain rfl : k = 0 := by rw [e0] at hrl; exact hrl.symm
    subst e1
    refine A6 (st := [18, 27]) ?_
    refine br ?_ ?_ <;> intro h22_0
    ·have hkl : 0 < ((plS n L L.length).last + 1 - 1).toNat := by omega
     have hrow : ((plS n L L.length).B.map rowB)[0 + 1 + 0]? = some (rowB ((plS n L L.length).B.getD (0 + 1) Ct0)) := by rw [show 0 + 1 + 0 = 0 + 1 by omega]; exact D1 (by omega)
     rw [J7 hz] at hrow
     (refine C8 (by exact Q0) ⟨rfl, A5 ?_⟩)
     (apply C2 (vs := [.str _, _]) j2; exact Q0; exact Q5; rfl; exact kb; rfl)
     (apply est (u := .agg [.str _, _]) j3; exact Q0; exact Q5; exact j4; exact kb; rfl)
     refine A4 ?_ (by exact Q0) (by exact Q5)
     refine br ?_ (fun h => absurd (rfl) h)
     intro h24_3
     refine D3 (es := [[.str _]]) j4 kz kb rfl rfl ?_
     (apply ean (s' := 16) (es := [[.str _]]) rfl j3 kz; exact Q7; exact Q3; exact Q2; exact Q2; exact Q2)
     refine F1 fun G hG => ?_
     refine A5 ?_
     refine C6 (ih ⟨0 + 1, .view (m + 1 + 1) 0 1, m + 1 + 1, m + 1 + 1 + 1, G⟩ ⟨by dsimp only; omega, ?_, by dsimp only; omega, .inr ⟨?_, ?_, by dsimp only; omega, by dsimp only; omega⟩⟩ (by dsimp only; omega)) (by (try dsimp only); (repeat first | exact LE.nil _ | refine LE.unk _ _ ?_ | refine LE.eq _ _ _ rfl ?_)) (LessH.refl _) (Nat.le_refl _)
     ·dsimp only; rw [hG]; exact Q0
     ·show V.view _ 0 _ = V.view _ 0 (ouP (plS n L L.length) 0 ++ [_]).length; rw [List.length_append]; rfl
     ·dsimp only; rw [hG]; show _ = some (Blk.mk ((ouP (plS n L L.length) 0 ++ [if _ then _ else _]).map tV) 1 9); rw [List.map_append, if_pos hz]; exact Q0
    ·have hek : 0 = ((plS n L L.length).last + 1 - 1).toNat := by omega
     rw [show plO n vw L = ouP (plS n L L.length) 0 from (if_pos hpo).trans (by rw [← hek])] at hne
     exact absurd rfl hne
   ·skip
    dsimp only at hbO2 hbO
    subst e1
    refine A6 (st := [18, 27]) ?_
    refine br ?_ ?_ <;> intro h22_0
    ·have hkl : k < ((plS n L L.length).last + 1 - 1).toNat := by omega
     have hrow : ((plS n L L.length).B.map rowB)[0 + 1 + k]? = some (rowB ((plS n L L.length).B.getD (k + 1) Ct0)) := by rw [show 0 + 1 + k = k + 1 by omega]; exact D1 (by omega)
     rw [J7 hz] at hrow
     (refine C8 (by exact Q0) ⟨rfl, A5 ?_⟩)
     (apply C2 (vs := [.str _, _]) j2; exact Q0; exact Q5; rfl; exact kb; rfl)
     (apply est (u := .agg [.str _, _]) j3; exact Q0; exact Q5; exact j4; exact kb; rfl)
     refine A4 ?_ (by exact Q0) (by exact Q5)
     refine br ?_ (fun h => absurd (rfl) h)
     intro h24_3
     refine D3 (es := [[.str _]]) j4 kz kb rfl rfl ?_
     (apply eap (s' := 16) (es := [[.str _]]) rfl rfl; exact Q0; exact j2; exact U4; exact j2; exact kz; exact Q7; exact Q3; exact Q2; exact Q2)
     refine F1 fun G hG => ?_
     refine A5 ?_
     refine C6 (ih ⟨k + 1, .view (m + 1 + 1) 0 ((ouP (plS n L L.length) k).length + 1), m + 1 + 1, m + 1 + 1 + 1, G⟩ ⟨by dsimp only; omega, ?_, by dsimp only; omega, .inr ⟨?_, ?_, by dsimp only; omega, by dsimp only; omega⟩⟩ (by dsimp only; omega)) (by (try dsimp only); (repeat first | exact LE.nil _ | refine LE.unk _ _ ?_ | refine LE.eq _ _ _ rfl ?_)) (LessH.refl _) (Nat.le_refl _)
     ·dsimp only; rw [hG]; exact Q0
     ·show V.view _ 0 _ = V.view _ 0 (ouP (plS n L L.length) k ++ [_]).length; rw [List.length_append]; rfl
     ·dsimp only; rw [hG]; show _ = some (Blk.mk ((ouP (plS n L L.length) k ++ [if _ then _ else _]).map tV) 1 9); rw [List.map_append, if_pos hz]; exact Q0
    ·have hek : k = ((plS n L L.length).last + 1 - 1).toNat := by omega
     rw [show plO n vw L = ouP (plS n L L.length) k from (if_pos hpo).trans (by rw [← hek])] at hne ⊢
     refine ⟨(bb, _), trivial, H9 rfl rfl ?_ (Nat.le_refl _)⟩
     intro _ j b' hj
     obtain ⟨rfl, rfl⟩ := one1 hj
     exact Q0
   ·skip
    obtain rfl : k = 0 := by rw [e0] at hrl; exact hrl.symm
    subst e1
    refine A6 (st := [18, 27]) ?_
    refine br ?_ ?_ <;> intro h22_0
    ·have hkl : 0 < ((plS n L L.length).last + 1 - 1).toNat := by omega
     have hrow : ((plS n L L.length).B.map rowB)[0 + 1 + 0]? = some (rowB ((plS n L L.length).B.getD (0 + 1) Ct0)) := by rw [show 0 + 1 + 0 = 0 + 1 by omega]; exact D1 (by omega)
     rw [I9 (Nat.pos_of_ne_zero hz)] at hrow
     have hlo : (((plS n L L.length).B.getD (0 + 1) Ct0).ps.map Msg.T).length = ((plS n L L.length).B.getD (0 + 1) Ct0).ps.length := List.length_map ..
     (refine C8 (by exact Q0) ⟨rfl, A5 ?_⟩)
     (apply C2 (vs := [.str _, _]) j2; exact Q0; exact Q5; rfl; exact kb; rfl)
     (apply est (u := .agg [.str _, _]) j3; exact Q0; exact Q5; exact j4; exact kb; rfl)
     refine A4 ?_ (by exact Q0) (by exact Q5)
     refine br (fun h => absurd h ((by omega))) ?_
     intro h24_3
     refine A4 ?_ (by exact Q0) (by exact Q5)
     refine D3 (es := [[.str _]]) j4 kz kb rfl rfl ?_
     (apply ean (s' := 16) (es := [[.str _]]) rfl j3 kz; exact Q7; exact Q3; exact Q2; exact Q2; exact Q2)
     refine F1 fun G hG => ?_
     refine A5 ?_
     refine C6 (ih ⟨0 + 1, .view (m + 1 + 1) 0 1, m + 1 + 1, m + 1 + 1 + 1, G⟩ ⟨by dsimp only; omega, ?_, by dsimp only; omega, .inr ⟨?_, ?_, by dsimp only; omega, by dsimp only; omega⟩⟩ (by dsimp only; omega)) (by (try dsimp only); (repeat first | exact LE.nil _ | refine LE.unk _ _ ?_ | refine LE.eq _ _ _ rfl ?_)) (LessH.refl _) (Nat.le_refl _)
     ·dsimp only; rw [hG]; exact Q0
     ·show V.view _ 0 _ = V.view _ 0 (ouP (plS n L L.length) 0 ++ [_]).length; rw [List.length_append]; rfl
     ·dsimp only; rw [hG]; show _ = some (Blk.mk ((ouP (plS n L L.length) 0 ++ [if _ then _ else _]).map tV) 1 9); rw [List.map_append, if_neg hz]; exact Q0
    ·have hek : 0 = ((plS n L L.length).last + 1 - 1).toNat := by omega
     rw [show plO n vw L = ouP (plS n L L.length) 0 from (if_pos hpo).trans (by rw [← hek])] at hne
     exact absurd rfl hne
   ·skip
    dsimp only at hbO2 hbO
    subst e1
    refine A6 (st := [18, 27]) ?_
    refine br ?_ ?_ <;> intro h22_0
    ·have hkl : k < ((plS n L L.length).last + 1 - 1).toNat := by omega
     have hrow : ((plS n L L.length).B.map rowB)[0 + 1 + k]? = some (rowB ((plS n L L.length).B.getD (k + 1) Ct0)) := by rw [show 0 + 1 + k = k + 1 by omega]; exact D1 (by omega)
     rw [I9 (Nat.pos_of_ne_zero hz)] at hrow
     have hlo : (((plS n L L.length).B.getD (k + 1) Ct0).ps.map Msg.T).length = ((plS n L L.length).B.getD (k + 1) Ct0).ps.length := List.length_map ..
     (refine C8 (by exact Q0) ⟨rfl, A5 ?_⟩)
     (apply C2 (vs := [.str _, _]) j2; exact Q0; exact Q5; rfl; exact kb; rfl)
     (apply est (u := .agg [.str _, _]) j3; exact Q0; exact Q5; exact j4; exact kb; rfl)
     refine A4 ?_ (by exact Q0) (by exact Q5)
     refine br (fun h => absurd h ((by omega))) ?_
     intro h24_3
     refine A4 ?_ (by exact Q0) (by exact Q5)
     refine D3 (es := [[.str _]]) j4 kz kb rfl rfl ?_
     (apply eap (s' := 16) (es := [[.str _]]) rfl rfl; exact Q0; exact j2; exact U4; exact j2; exact kz; exact Q7; exact Q3; exact Q2; exact Q2)
     refine F1 fun G hG => ?_
     refine A5 ?_
     refine C6 (ih ⟨k + 1, .view (m + 1 + 1) 0 ((ouP (plS n L L.length) k).length + 1), m + 1 + 1, m + 1 + 1 + 1, G⟩ ⟨by dsimp only; omega, ?_, by dsimp only; omega, .inr ⟨?_, ?_, by dsimp only; omega, by dsimp only; omega⟩⟩ (by dsimp only; omega)) (by (try dsimp only); (repeat first | exact LE.nil _ | refine LE.unk _ _ ?_ | refine LE.eq _ _ _ rfl ?_)) (LessH.refl _) (Nat.le_refl _)
     ·dsimp only; rw [hG]; exact Q0
     ·show V.view _ 0 _ = V.view _ 0 (ouP (plS n L L.length) k ++ [_]).length; rw [List.length_append]; rfl
     ·dsimp only; rw [hG]; show _ = some (Blk.mk ((ouP (plS n L L.length) k ++ [if _ then _ else _]).map tV) 1 9); rw [List.map_append, if_neg hz]; exact Q0
    ·have hek : k = ((plS n L L.length).last + 1 - 1).toNat := by omega
     rw [show plO n vw L = ouP (plS n L L.length) k from (if_pos hpo).trans (by rw [← hek])] at hne ⊢
     refine ⟨(bb, _), trivial, H9 rfl rfl ?_ (Nat.le_refl _)⟩
     intro _ j b' hj
     obtain ⟨rfl, rfl⟩ := one1 hj
     exact Q0
theorem o16 (n vw : Int) (L : List Msg) (b : Bool) (hne : pnO n vw L ≠ []) (k : Nat) : V.Open En 16 ([A.one (.int .i64 n), A.one (.int .i64 vw), A.one (.sl b (L.map Msg.T))].map (A.toV false)) (fun _ => none) k (.tup [.view k 0 (pnO n vw L).length, .int .i64 (pnC n vw L)]) [(k, some ⟨(pnO n vw L).map tV, 1, 9⟩)] (k + 1) := by
 have hc : ¬ 4096 < L.length := fun e => hne (if_pos e)
 have hy : nodes n ∧ 1 ≤ vw ∧ vw ≤ 20 := Classical.byContradiction fun e => hne ((if_neg hc).trans (if_neg e))
 have e1 : pnO n vw L = plO n vw L := (if_neg hc).trans (if_pos hy)
 have e2 : pnC n vw L = plC n vw L := (if_neg hc).trans (if_pos hy)
 rw [e1] at hne ⊢
 have hpo : planOK n vw L := Classical.byContradiction fun e => hne (if_neg e)
 have e3 : plC n vw L = 0 := (if_pos hpo.1).trans (if_pos hpo)
 rw [e2, e3]
 obtain ⟨hn, hv⟩ := hy
 obtain ⟨⟨j, m⟩, _, hS⟩ := o65 n vw hn L b hpo hne
 refine openSh (id := j) (m := m) ?_ (fun x hx => by simp only [List.map_cons, List.map_nil, List.mem_cons, List.not_mem_nil, or_false] at hx; rcases hx with rfl | rfl | rfl <;> rfl) (fun e he x hx => by obtain ⟨s, _, rfl⟩ := List.mem_map.1 he; rw [show x = .str s from List.mem_singleton.1 hx]; rfl) k
 dsimp only at hS
 refine V.Open.of_ev (st := []) Tryz.func16 rfl kb ?_
 refine B2 (s62 L b) rfl j2 ?_ ?_ <;> intro h1_1
 ·exact absurd h1_1 hc
 ·refine B2 (p22 n) rfl j2 ?_ ?_ <;> intro h3_1
  ·refine B2 (p12 _ _ _) rfl j2 ?_ ?_ <;> intro h3_5
   ·refine J4 hS rfl rfl rfl ?_
    exact H9 rfl rfl (fun _ j b hj => hj) (Nat.le_refl _)
   ·first | exact absurd hn h3_1 | exact absurd hv h3_5
  ·first | exact absurd hn h3_1 | exact absurd hv h3_5
open Go.V
set_option linter.unusedVariables false
set_option linter.unusedSimpArgs false
set_option maxRecDepth 20000
set_option maxHeartbeats 4000000
theorem H5 (L : List Msg) : L.map Msg.V = rowsV (L.map Msg.T) := by unfold rowsV; rw [List.map_map]; rfl
theorem rowsSg (L : List ByteArray) : L.map tV = rowsV (L.map tT) := by unfold rowsV; rw [List.map_map]; rfl
theorem s20e (b : Bool) (W : List ByteArray) (hW : W = []) (k : Int) : Pure En 20 [.one (.sl b (W.map tT)), .one (.int .i64 k)] [.one (.int .i64 k)] := by
 subst hW
 refine Pure.of_ev (st := []) Tryz.func20 rfl kb ?_
 refine A6 (st := []) ?_
 refine br (fun h => absurd h ((by decide))) ?_
 intro h2_3
 exact D0 rfl rfl
theorem s21e (b : Bool) (W : List ByteArray) (hW : W = []) : Pure En 21 [.one (.sl b (W.map tT)), .one (.int .i64 1)] [.one (.int .i64 1)] := by
 subst hW
 exact s21 b 1 0 (by omega) (by omega)
theorem N2 {k : Nat} {es : List (List V)} {sz ty : Nat} (h : ∀ e ∈ es, ∀ x ∈ e, x.flat = true) : ∀ id b, app [(k, some ⟨es, sz, ty⟩)] (fun _ => none) id = some b → ∀ e ∈ b.es, ∀ x ∈ e, x.flat = true := fun id b hb => by
 obtain ⟨_, rfl⟩ := one1 hb
 exact h
theorem lawV (n vw : Int) (b : Bool) (L : List Msg) (hm : L.length ≤ 9223372036854775807) (hs : ∀ i, i < L.length → (L.getD i Msg0).dg.size ≤ 9223372036854775807 ∧ (L.getD i Msg0).bd.size ≤ 9223372036854775807 ∧ (L.getD i Msg0).mc.size ≤ 9223372036854775807) (hW : (pnO n vw L).length ≤ 1048577) (hne : pnO n vw L ≠ []) :
  Pure En 3 [.one (.int .i64 n), .one (.int .i64 vw), .one (.sl b (L.map Msg.T))] [.one (.bool true)] := by
 have hl : (L.map Msg.T).length = L.length := List.length_map ..
 refine Pure.of_ev (st := []) Tryz.func3 rfl kb ?_
 refine eclX (s13 b L 1048576 (by omega) hm hs) rfl j2 ?_
 rintro x h2_2
 try dsimp only at h2_2
 refine br ?_ ?_ <;> intro h3_1
 ·exact D0 rfl rfl
 ·(apply efs [] (o15 b L (by omega)) rfl j2; (exact (SnapL.cons _ _ _ _ (.one _ _ (.sl _ _ _ (fun h => by cases h))) SnapL.nil)); rfl; (exact N2 (frM L)); exact List.cons_ne_nil _ _)
  apply J2 [0] (r14 n vw L true) rfl rfl rfl
  ·exact (SnapL.cons _ _ _ _ (.one _ _ (.int _ _)) (SnapL.cons _ _ _ _ (.one _ _ (.int _ _)) (SnapL.cons _ _ _ _ (.one _ _ (A2 (L.map Msg.T) (by simp) (by exact Q0) (H5 _) (List.length_map ..).symm)) SnapL.nil)))
  (apply efs [] (o15 b L (by omega)) rfl j2; (exact (SnapL.cons _ _ _ _ (.one _ _ (.sl _ _ _ (fun h => by cases h))) SnapL.nil)); rfl; (exact N2 (frM L)); exact List.cons_ne_nil _ _)
  (apply efs [1] (o16 n vw L true hne _) rfl j2; (exact (SnapL.cons _ _ _ _ (.one _ _ (.int _ _)) (SnapL.cons _ _ _ _ (.one _ _ (.int _ _)) (SnapL.cons _ _ _ _ (.one _ _ (A2 (L.map Msg.T) (by simp) (by exact Q0) (H5 _) (List.length_map ..).symm)) SnapL.nil)))); rfl; (exact N2 (fL_str _)); exact List.cons_ne_nil _ _)
  apply J2 [2] (s17 true false (pnO n vw L) hW) rfl rfl rfl
  ·exact (SnapL.cons _ _ _ _ (.one _ _ (A2 ((pnO n vw L).map tT) (by simp) (by exact Q0) (rowsSg _) (List.length_map ..).symm)) (SnapL.cons _ _ _ _ (.one _ _ (.sl _ _ _ (fun h => by cases h))) SnapL.nil))
  refine br (fun h => absurd h ((fun hh => hh rfl))) ?_
  intro h8_7
  (apply efs [] (o15 b L (by omega)) rfl j2; (exact (SnapL.cons _ _ _ _ (.one _ _ (.sl _ _ _ (fun h => by cases h))) SnapL.nil)); rfl; (exact N2 (frM L)); exact List.cons_ne_nil _ _)
  apply J2 [1, 3] (s18 true true L (by omega)) rfl rfl rfl
  ·exact (SnapL.cons _ _ _ _ (.one _ _ (A2 (L.map Msg.T) (by simp) (by exact Q0) (H5 _) (List.length_map ..).symm)) (SnapL.cons _ _ _ _ (.one _ _ (A2 (L.map Msg.T) (by simp) (by exact Q0) (H5 _) (List.length_map ..).symm)) SnapL.nil))
  refine J4 (o19 L 1 (by omega) (by omega) (id := 1) ?_ ?_) rfl rfl rfl ?_
  ·(first | omega | decide | exact Q0)
  ·(first | omega | decide | exact Q0)
  refine br (fun h => absurd h ((by omega))) ?_
  intro h14_1
  apply J2 [2] (s17 true false (pnO n vw L) hW) rfl rfl rfl
  ·exact (SnapL.cons _ _ _ _ (.one _ _ (A2 ((pnO n vw L).map tT) (by simp) (by exact Q0) (rowsSg _) (List.length_map ..).symm)) (SnapL.cons _ _ _ _ (.one _ _ (.sl _ _ _ (fun h => by cases h))) SnapL.nil))
  refine br (fun h => absurd h ((fun hh => hh rfl))) ?_
  intro h14_11
  refine J4 (o20 (pnO n vw L) 1 (by omega) hW (id := 2) ?_ ?_) rfl rfl rfl ?_
  ·(first | omega | decide | exact Q0)
  ·(first | omega | decide | exact Q0)
  apply J2 [2] (s21 true 1 (pnO n vw L).length (by omega) hW) rfl rfl rfl
  ·exact (SnapL.cons _ _ _ _ (.one _ _ (A2 ((MS 1 (pnO n vw L).length).map tT) (by simp) (by exact Q0) (rowsSg _) (by rw [List.length_map, U8]))) (SnapL.cons _ _ _ _ (.one _ _ (.int _ _)) SnapL.nil))
  refine br (fun h => absurd h ((by omega))) ?_
  intro h20_1
  refine br (fun h => absurd h ((fun hh => hh rfl))) ?_
  intro h22_2
  (apply efs [] (o15 b L (by omega)) rfl j2; (exact (SnapL.cons _ _ _ _ (.one _ _ (.sl _ _ _ (fun h => by cases h))) SnapL.nil)); rfl; (exact N2 (frM L)); exact List.cons_ne_nil _ _)
  apply J2 [4] (s16 n vw L true) rfl rfl rfl
  ·exact (SnapL.cons _ _ _ _ (.one _ _ (.int _ _)) (SnapL.cons _ _ _ _ (.one _ _ (.int _ _)) (SnapL.cons _ _ _ _ (.one _ _ (A2 (L.map Msg.T) (by simp) (by exact Q0) (H5 _) (List.length_map ..).symm)) SnapL.nil)))
  refine B7 (s17 false false (pnO n vw L) hW) rfl rfl rfl ?_
  refine br (fun h => absurd h ((fun hh => hh rfl))) ?_
  intro h25_7
  apply J2 [2] (s21 true 1 (pnO n vw L).length (by omega) hW) rfl rfl rfl
  ·exact (SnapL.cons _ _ _ _ (.one _ _ (A2 ((MS 1 (pnO n vw L).length).map tT) (by simp) (by exact Q0) (rowsSg _) (by rw [List.length_map, U8]))) (SnapL.cons _ _ _ _ (.one _ _ (.int _ _)) SnapL.nil))
  refine br (fun h => absurd h ((by omega))) ?_
  intro h29_1
  refine br (fun h => absurd h ((fun hh => hh rfl))) ?_
  intro h31_2
  exact D0 rfl rfl
theorem lawN (n vw : Int) (b : Bool) (L : List Msg) (hm : L.length ≤ 9223372036854775807) (hs : ∀ i, i < L.length → (L.getD i Msg0).dg.size ≤ 9223372036854775807 ∧ (L.getD i Msg0).bd.size ≤ 9223372036854775807 ∧ (L.getD i Msg0).mc.size ≤ 9223372036854775807) (hW : (pnO n vw L).length ≤ 1048577) (hne : pnO n vw L = []) :
  Pure En 3 [.one (.int .i64 n), .one (.int .i64 vw), .one (.sl b (L.map Msg.T))] [.one (.bool true)] := by
 have hl : (L.map Msg.T).length = L.length := List.length_map ..
 refine Pure.of_ev (st := []) Tryz.func3 rfl kb ?_
 refine eclX (s13 b L 1048576 (by omega) hm hs) rfl j2 ?_
 rintro x h2_2
 try dsimp only at h2_2
 refine br ?_ ?_ <;> intro h3_1
 ·exact D0 rfl rfl
 ·(apply efs [] (o15 b L (by omega)) rfl j2; (exact (SnapL.cons _ _ _ _ (.one _ _ (.sl _ _ _ (fun h => by cases h))) SnapL.nil)); rfl; (exact N2 (frM L)); exact List.cons_ne_nil _ _)
  apply J2 [0] (r14 n vw L true) rfl rfl rfl
  ·exact (SnapL.cons _ _ _ _ (.one _ _ (.int _ _)) (SnapL.cons _ _ _ _ (.one _ _ (.int _ _)) (SnapL.cons _ _ _ _ (.one _ _ (A2 (L.map Msg.T) (by simp) (by exact Q0) (H5 _) (List.length_map ..).symm)) SnapL.nil)))
  (apply efs [] (o15 b L (by omega)) rfl j2; (exact (SnapL.cons _ _ _ _ (.one _ _ (.sl _ _ _ (fun h => by cases h))) SnapL.nil)); rfl; (exact N2 (frM L)); exact List.cons_ne_nil _ _)
  apply J2 [1] (s16 n vw L true) rfl rfl rfl
  ·exact (SnapL.cons _ _ _ _ (.one _ _ (.int _ _)) (SnapL.cons _ _ _ _ (.one _ _ (.int _ _)) (SnapL.cons _ _ _ _ (.one _ _ (A2 (L.map Msg.T) (by simp) (by exact Q0) (H5 _) (List.length_map ..).symm)) SnapL.nil)))
  refine B7 (s17 false false (pnO n vw L) hW) rfl rfl rfl ?_
  refine br (fun h => absurd h ((fun hh => hh rfl))) ?_
  intro h8_7
  (apply efs [] (o15 b L (by omega)) rfl j2; (exact (SnapL.cons _ _ _ _ (.one _ _ (.sl _ _ _ (fun h => by cases h))) SnapL.nil)); rfl; (exact N2 (frM L)); exact List.cons_ne_nil _ _)
  apply J2 [1, 2] (s18 true true L (by omega)) rfl rfl rfl
  ·exact (SnapL.cons _ _ _ _ (.one _ _ (A2 (L.map Msg.T) (by simp) (by exact Q0) (H5 _) (List.length_map ..).symm)) (SnapL.cons _ _ _ _ (.one _ _ (A2 (L.map Msg.T) (by simp) (by exact Q0) (H5 _) (List.length_map ..).symm)) SnapL.nil))
  refine J4 (o19 L 1 (by omega) (by omega) (id := 1) ?_ ?_) rfl rfl rfl ?_
  ·(first | omega | decide | exact Q0)
  ·(first | omega | decide | exact Q0)
  refine br (fun h => absurd h ((by omega))) ?_
  intro h14_1
  refine B7 (s17 false false (pnO n vw L) hW) rfl rfl rfl ?_
  refine br (fun h => absurd h ((fun hh => hh rfl))) ?_
  intro h14_11
  refine B7 (s20e false _ hne 1) rfl rfl rfl ?_
  refine B7 (s21e false _ hne) rfl rfl rfl ?_
  refine br (fun h => absurd h ((by omega))) ?_
  intro h20_1
  refine br (fun h => absurd h ((fun hh => hh rfl))) ?_
  intro h22_2
  (apply efs [] (o15 b L (by omega)) rfl j2; (exact (SnapL.cons _ _ _ _ (.one _ _ (.sl _ _ _ (fun h => by cases h))) SnapL.nil)); rfl; (exact N2 (frM L)); exact List.cons_ne_nil _ _)
  apply J2 [3] (s16 n vw L true) rfl rfl rfl
  ·exact (SnapL.cons _ _ _ _ (.one _ _ (.int _ _)) (SnapL.cons _ _ _ _ (.one _ _ (.int _ _)) (SnapL.cons _ _ _ _ (.one _ _ (A2 (L.map Msg.T) (by simp) (by exact Q0) (H5 _) (List.length_map ..).symm)) SnapL.nil)))
  refine B7 (s17 false false (pnO n vw L) hW) rfl rfl rfl ?_
  refine br (fun h => absurd h ((fun hh => hh rfl))) ?_
  intro h25_7
  refine B7 (s21e false _ hne) rfl rfl rfl ?_
  refine br (fun h => absurd h ((by omega))) ?_
  intro h29_1
  refine br (fun h => absurd h ((fun hh => hh rfl))) ?_
  intro h31_2
  exact D0 rfl rfl
open Go Go.ClosedOfChecked
set_option linter.unusedVariables false
set_option maxRecDepth 20000
set_option maxHeartbeats 4000000
theorem joined_intro {P : Program} {f : FuncId} {fn : Func} {s : ChangeSpec} {c : OpenClaim} (a1 : c.wf (OpenSpec.ofChange s) = true) (a2 : laidOutB P = true) (a3 : mapsRowed P = true) (a4 : fn.params.all (P.readableRec ·) = true) (a5 : namedTie P c.named s.vars = true) (a6 : (c.stops == []) = true) (a7 : (P.stops == []) = true) (a8 : (c.knobs == []) = true) (a9 : (P.stopKnobs == []) = true) (b1 : (c.inPlace == P.inPlace f) = true) (b2 : (c.unfollowed == P.unfollowed f) = true) (b3 : (c.recurses == P.recurses f) = true) (b4 : (c.named == P.varsNamed f) = true) (b5 : (c.maps == (fn.params.toList ++ s.plain.varTypes P).any (P.mapsRec ·)) = true) (b6 : (c.ifaces == (fn.params.toList ++ s.plain.varTypes P).any (P.ifacesRec ·)) = true) (b7 : (c.mapsOut == P.mapsAmong fn.resultTypes.toList) = true) (b8 : (c.loops == (fn.params.toList ++ s.plain.varTypes P).any (P.loopsFrom ·)) = true) (b9 : (c.wideKeys == (fn.params.toList ++ s.plain.varTypes P ++ fn.resultTypes.toList).any (P.wideKeysFrom ·)) = true) (c1 : s.vars.all (P.varReadable ·) = true) (c2 : fn.resultTypes.all (fun t => P.readableRec t && decide (t < P.types.size)) = true) (c3 : (c.ifacesOut == fn.resultTypes.toList.any (P.ifacesRec ·)) = true) (c4 : (c.loopsOut == fn.resultTypes.toList.any (P.loopsFrom ·)) = true) (c5 : (c.plainKeys == P.plainKeys) = true) (c6 : c.shortTexts.isNone = true) (c7 : P.stopsHeard = true) (c8 : P.mayEnter = true) (c9 : (c.lifted == P.liftsFinal) = true) (d1 : (P.make == some c.make) = true) (d2 : (c.kinds == (if c.domain.isEmpty then [] else fn.params.toList.map fun t => match P.underlying t with | some (.int k) => some k | _ => none)) = true) (d3 : (c.pinned == c.pinnedBy) = true) (d4 : (c.veiled == (fn.params.toList ++ s.plain.varTypes P ++ fn.resultTypes.toList).any (P.veiledRec ·)) = true) (d5 : c.veiledFits P fn.params.toList (fn.params.toList ++ s.plain.varTypes P ++ fn.resultTypes.toList) = true) : joinedFacts P f fn s c = true := by
 unfold joinedFacts
 simp only [a1, a2, a3, a4, a5, a6, a7, a8, a9, b1, b2, b3, b4, b5, b6, b7, b8, b9, c1, c2, c3, c4, c5, c6, c7, c8, c9, d1, d3, d4, d5, Bool.true_and, Bool.and_true]
 exact d2
theorem jn_ty : Tryz.checked.prog.types = Tryz.checked.src.types := by kernel_rfl
theorem jn_rest : (Tryz.checked.prog.globals.all (fun g => decide (g.type < Tryz.checked.prog.types.size)) && Tryz.checked.prog.funcs.all (fun f => f.params.all fun t => decide (t < Tryz.checked.prog.types.size))) = true := by kernel_rfl
theorem jn_laid : laidOutB Tryz.checked.prog = true := laidOutB_of (allSpec_of Tryz.checked.wellFormed jn_ty) jn_rest
theorem jn_maps : mapsRowed Tryz.checked.prog = true := mapsRowed_of (allSpec_of Tryz.checked.wellFormed jn_ty)
theorem jn_keys : (false == Tryz.checked.prog.plainKeys) = true := by kernel_rfl
theorem jn_stops : (Tryz.prog.stops == []) = true := by kernel_rfl
theorem jn_knobs : (Tryz.prog.stopKnobs == []) = true := by kernel_rfl
theorem jn_heard : Tryz.prog.stopsHeard = true := by kernel_rfl
theorem jn_enter : Tryz.prog.mayEnter = true := by kernel_rfl
end Go.Proofs.YteifdelnahccjaaGreatDoor
namespace Go.Proofs.YteifdelnahccjaaGreatDoor.fnExactPlanOf
open Go
set_option linter.unusedVariables false
set_option maxRecDepth 20000
set_option maxHeartbeats 4000000
theorem k1 : (Rows.fnExactPlanOfRow.inPlace == Tryz.pinned.checked.prog.inPlace 3) = true := by kernel_rfl
theorem k2 : (Rows.fnExactPlanOfRow.unfollowed == Tryz.pinned.checked.prog.unfollowed 3) = true := by kernel_rfl
theorem k3 : (Rows.fnExactPlanOfRow.recurses == Tryz.pinned.checked.prog.recurses 3) = true := by kernel_rfl
theorem k4 : (Rows.fnExactPlanOfRow.named == Tryz.pinned.checked.prog.varsNamed 3) = true := by kernel_rfl
theorem k5 : (Rows.fnExactPlanOfRow.lifted == Tryz.pinned.checked.prog.liftsFinal) = true := by kernel_rfl
theorem k6 : (Tryz.pinned.checked.prog.make == some Rows.fnExactPlanOfRow.make) = true := by kernel_rfl
theorem joined : joinedFacts Tryz.pinned.checked.prog 3 Tryz.f3 (OpenSpec.ofChange Rows.fnExactPlanOfSpec).bare Rows.fnExactPlanOfRow = true :=
 joined_intro (by kernel_rfl) jn_laid jn_maps (by kernel_rfl) (by kernel_rfl) (by kernel_rfl) jn_stops (by kernel_rfl) jn_knobs k1 k2 k3 k4 (by kernel_rfl) (by kernel_rfl) (by kernel_rfl) (by kernel_rfl) (by kernel_rfl)
  (by kernel_rfl) (by kernel_rfl) (by kernel_rfl) (by kernel_rfl) jn_keys (by kernel_rfl) jn_heard jn_enter k5 k6 (by kernel_rfl) (by kernel_rfl) (by kernel_rfl) (by kernel_rfl)
theorem w1 : Rows.fnExactPlanOfRow.wfByText (OpenSpec.ofChange Rows.fnExactPlanOfSpec) = true := by kernel_rfl
theorem w3 : false = Rows.fnExactPlanOfRow.goesBy Tryz.pinned.checked.prog := by kernel_rfl
theorem w4 : false = Tryz.pinned.checked.prog.looks [] := by kernel_rfl
theorem w5 : Tryz.prog.funcNamed "loop.example/g00292/laws.FnExactPlanOf" = some 3 := by kernel_rfl
theorem st3 : Tryz.prog.wantsStandIn 3 = false := by kernel_rfl
theorem st22 : Tryz.prog.wantsStandIn 22 = false := by kernel_rfl
theorem plain (f : FuncId) (fn : Func) (hf : Tryz.pinned.checked.prog.funcNamed "loop.example/g00292/laws.FnExactPlanOf" = some f) (hfn : Tryz.pinned.checked.prog.funcs[f]? = some fn) :
  false = Tryz.pinned.checked.prog.looks [] ∧ ∀ (j : Nat) t, fn.params[j]? = some t → Tryz.pinned.checked.prog.wantsStandIn t = false := by
 obtain rfl : f = 3 := Option.some.inj (w5.symm.trans hf) |>.symm
 obtain rfl : fn = Tryz.f3 := (Option.some.inj (Tryz.func3.symm.trans hfn)).symm
 refine ⟨w4, fun j t ht => ?_⟩
 rw [Tryz.params3] at ht
 have hm := Array.mem_of_getElem? ht
 simp only [List.mem_toArray, List.mem_cons, List.not_mem_nil, or_false] at hm
 rcases hm with rfl | rfl | rfl
 ·exact st3
 ·exact st3
 ·exact st22
end Go.Proofs.YteifdelnahccjaaGreatDoor.fnExactPlanOf
