import Derived.Test.YteifdelnahccjaaGreatDoorF8
namespace Go.Proofs.YteifdelnahccjaaGreatDoor
open Go.V
set_option linter.unusedVariables false
set_option linter.unusedSimpArgs false
set_option maxRecDepth 20000
set_option maxHeartbeats 4000000
theorem r59 (n : Int) (hn : nodes n) : Pure En 59 [.one (.int .i64 n)] [.one (.int .i64 (quo n))] := by
 rcases hn with rfl | rfl | rfl
 all_goals
  refine Pure.of_ev (st := []) Tryz.func59 rfl kb ?_
  refine B7 ?_
  refine C2 ?_
  refine B7 ?_
  refine B7 ?_
  exact E4 rfl rfl
theorem r223 (r : Rg) : Pure En 223 [.agg r.T] [.one (.bool (decide r.OK))] := by
 refine Pure.of_ev (st := []) Tryz.func223 rfl kb ?_
 refine A4 ?_
 refine B6 (s50 _ _ _) rfl j2 ?_ ?_ <;> intro h1_2
 ·refine A4 ?_
  refine B6 (s50 _ _ _) rfl j2 ?_ ?_ <;> intro h1_6
  ·refine A4 ?_
   refine br ?_ ?_ <;> intro h1_12
   ·first | (refine B4 rfl ?_; unfold Rg.OK; omega) | (refine B3 rfl ?_; unfold Rg.OK; omega)
   ·first | (refine B4 rfl ?_; unfold Rg.OK; omega) | (refine B3 rfl ?_; unfold Rg.OK; omega)
  ·first | (refine B4 rfl ?_; unfold Rg.OK; omega) | (refine B3 rfl ?_; unfold Rg.OK; omega)
 ·first | (refine B4 rfl ?_; unfold Rg.OK; omega) | (refine B3 rfl ?_; unfold Rg.OK; omega)
theorem r165 (m : Msg) : Pure En 165 [.agg m.T] [.one (.bool (decide m.OK))] := by
 refine Pure.of_ev (st := []) Tryz.func165 rfl kb ?_
 refine A4 ?_
 refine B6 (s50 _ _ _) rfl j2 ?_ ?_ <;> intro h1_2
 ·refine A4 ?_
  refine B6 (s50 _ _ _) rfl j2 ?_ ?_ <;> intro h1_7
  ·refine A4 ?_
   refine B6 (s50 _ _ _) rfl j2 ?_ ?_ <;> intro h1_13
   ·refine A4 ?_
    refine br ?_ ?_ <;> intro h1_20
    ·first
     | (refine B4 rfl ?_; unfold Msg.OK; refine ⟨by omega, by omega, by omega, by omega, by omega, ?_⟩; first | (rw [if_pos (by omega)]; exact ⟨by omega, by omega, (by constructor <;> intro q <;> first | assumption | exact absurd q (by assumption) | omega | (exact absurd (by assumption) q))⟩) | (rw [if_neg (by omega)]; exact ⟨by omega, by assumption⟩))
     | (refine B3 rfl (fun e => ?_); unfold Msg.OK at e; obtain ⟨e1, e2, e3, e4, e5, e6⟩ := e; first | omega | (rw [if_pos (by omega)] at e6; obtain ⟨f1, f2, f3⟩ := e6; first | omega | exact absurd (f3.2 (by omega)) (by first | assumption | (intro q; exact q (by assumption))) | exact absurd (f3.1 (by assumption)) (by omega)) | (rw [if_neg (by omega)] at e6; first | omega | exact absurd e6.2 (by assumption)))
    ·refine A4 ?_
     refine br ?_ ?_ <;> intro h1_26
     ·first
      | (refine B4 rfl ?_; unfold Msg.OK; refine ⟨by omega, by omega, by omega, by omega, by omega, ?_⟩; first | (rw [if_pos (by omega)]; exact ⟨by omega, by omega, (by constructor <;> intro q <;> first | assumption | exact absurd q (by assumption) | omega | (exact absurd (by assumption) q))⟩) | (rw [if_neg (by omega)]; exact ⟨by omega, by assumption⟩))
      | (refine B3 rfl (fun e => ?_); unfold Msg.OK at e; obtain ⟨e1, e2, e3, e4, e5, e6⟩ := e; first | omega | (rw [if_pos (by omega)] at e6; obtain ⟨f1, f2, f3⟩ := e6; first | omega | exact absurd (f3.2 (by omega)) (by first | assumption | (intro q; exact q (by assumption))) | exact absurd (f3.1 (by assumption)) (by omega)) | (rw [if_neg (by omega)] at e6; first | omega | exact absurd e6.2 (by assumption)))
     ·refine A4 ?_
      refine br ?_ ?_ <;> intro h4_0
      ·refine A4 ?_
       refine B6 (s50 _ _ _) rfl j2 ?_ ?_ <;> intro h5_2
       ·refine A4 ?_
        refine br ?_ ?_ <;> intro h5_7
        ·refine A4 ?_
         refine br ?_ ?_ <;> intro h5_12
         ·first
          | (refine B4 rfl ?_; unfold Msg.OK; refine ⟨by omega, by omega, by omega, by omega, by omega, ?_⟩; first | (rw [if_pos (by omega)]; exact ⟨by omega, by omega, (by constructor <;> intro q <;> first | assumption | exact absurd q (by assumption) | omega | (exact absurd (by assumption) q))⟩) | (rw [if_neg (by omega)]; exact ⟨by omega, by assumption⟩))
          | (refine B3 rfl (fun e => ?_); unfold Msg.OK at e; obtain ⟨e1, e2, e3, e4, e5, e6⟩ := e; first | omega | (rw [if_pos (by omega)] at e6; obtain ⟨f1, f2, f3⟩ := e6; first | omega | exact absurd (f3.2 (by omega)) (by first | assumption | (intro q; exact q (by assumption))) | exact absurd (f3.1 (by assumption)) (by omega)) | (rw [if_neg (by omega)] at e6; first | omega | exact absurd e6.2 (by assumption)))
         ·first
          | (refine B4 rfl ?_; unfold Msg.OK; refine ⟨by omega, by omega, by omega, by omega, by omega, ?_⟩; first | (rw [if_pos (by omega)]; exact ⟨by omega, by omega, (by constructor <;> intro q <;> first | assumption | exact absurd q (by assumption) | omega | (exact absurd (by assumption) q))⟩) | (rw [if_neg (by omega)]; exact ⟨by omega, by assumption⟩))
          | (refine B3 rfl (fun e => ?_); unfold Msg.OK at e; obtain ⟨e1, e2, e3, e4, e5, e6⟩ := e; first | omega | (rw [if_pos (by omega)] at e6; obtain ⟨f1, f2, f3⟩ := e6; first | omega | exact absurd (f3.2 (by omega)) (by first | assumption | (intro q; exact q (by assumption))) | exact absurd (f3.1 (by assumption)) (by omega)) | (rw [if_neg (by omega)] at e6; first | omega | exact absurd e6.2 (by assumption)))
        ·first
         | (refine B4 rfl ?_; unfold Msg.OK; refine ⟨by omega, by omega, by omega, by omega, by omega, ?_⟩; first | (rw [if_pos (by omega)]; exact ⟨by omega, by omega, (by constructor <;> intro q <;> first | assumption | exact absurd q (by assumption) | omega | (exact absurd (by assumption) q))⟩) | (rw [if_neg (by omega)]; exact ⟨by omega, by assumption⟩))
         | (refine B3 rfl (fun e => ?_); unfold Msg.OK at e; obtain ⟨e1, e2, e3, e4, e5, e6⟩ := e; first | omega | (rw [if_pos (by omega)] at e6; obtain ⟨f1, f2, f3⟩ := e6; first | omega | exact absurd (f3.2 (by omega)) (by first | assumption | (intro q; exact q (by assumption))) | exact absurd (f3.1 (by assumption)) (by omega)) | (rw [if_neg (by omega)] at e6; first | omega | exact absurd e6.2 (by assumption)))
       ·first
        | (refine B4 rfl ?_; unfold Msg.OK; refine ⟨by omega, by omega, by omega, by omega, by omega, ?_⟩; first | (rw [if_pos (by omega)]; exact ⟨by omega, by omega, (by constructor <;> intro q <;> first | assumption | exact absurd q (by assumption) | omega | (exact absurd (by assumption) q))⟩) | (rw [if_neg (by omega)]; exact ⟨by omega, by assumption⟩))
        | (refine B3 rfl (fun e => ?_); unfold Msg.OK at e; obtain ⟨e1, e2, e3, e4, e5, e6⟩ := e; first | omega | (rw [if_pos (by omega)] at e6; obtain ⟨f1, f2, f3⟩ := e6; first | omega | exact absurd (f3.2 (by omega)) (by first | assumption | (intro q; exact q (by assumption))) | exact absurd (f3.1 (by assumption)) (by omega)) | (rw [if_neg (by omega)] at e6; first | omega | exact absurd e6.2 (by assumption)))
      ·refine br ?_ ?_ <;> intro h6_0
       ·refine A4 ?_
        refine B6 (s50 _ _ _) rfl j2 ?_ ?_ <;> intro h8_2
        ·refine A4 ?_
         refine br ?_ ?_ <;> intro h8_7
         ·refine A4 ?_
          refine br ?_ ?_ <;> intro h8_12
          ·first
           | (refine B4 rfl ?_; unfold Msg.OK; refine ⟨by omega, by omega, by omega, by omega, by omega, ?_⟩; first | (rw [if_pos (by omega)]; exact ⟨by omega, by omega, (by constructor <;> intro q <;> first | assumption | exact absurd q (by assumption) | omega | (exact absurd (by assumption) q))⟩) | (rw [if_neg (by omega)]; exact ⟨by omega, by assumption⟩))
           | (refine B3 rfl (fun e => ?_); unfold Msg.OK at e; obtain ⟨e1, e2, e3, e4, e5, e6⟩ := e; first | omega | (rw [if_pos (by omega)] at e6; obtain ⟨f1, f2, f3⟩ := e6; first | omega | exact absurd (f3.2 (by omega)) (by first | assumption | (intro q; exact q (by assumption))) | exact absurd (f3.1 (by assumption)) (by omega)) | (rw [if_neg (by omega)] at e6; first | omega | exact absurd e6.2 (by assumption)))
          ·first
           | (refine B4 rfl ?_; unfold Msg.OK; refine ⟨by omega, by omega, by omega, by omega, by omega, ?_⟩; first | (rw [if_pos (by omega)]; exact ⟨by omega, by omega, (by constructor <;> intro q <;> first | assumption | exact absurd q (by assumption) | omega | (exact absurd (by assumption) q))⟩) | (rw [if_neg (by omega)]; exact ⟨by omega, by assumption⟩))
           | (refine B3 rfl (fun e => ?_); unfold Msg.OK at e; obtain ⟨e1, e2, e3, e4, e5, e6⟩ := e; first | omega | (rw [if_pos (by omega)] at e6; obtain ⟨f1, f2, f3⟩ := e6; first | omega | exact absurd (f3.2 (by omega)) (by first | assumption | (intro q; exact q (by assumption))) | exact absurd (f3.1 (by assumption)) (by omega)) | (rw [if_neg (by omega)] at e6; first | omega | exact absurd e6.2 (by assumption)))
         ·first
          | (refine B4 rfl ?_; unfold Msg.OK; refine ⟨by omega, by omega, by omega, by omega, by omega, ?_⟩; first | (rw [if_pos (by omega)]; exact ⟨by omega, by omega, (by constructor <;> intro q <;> first | assumption | exact absurd q (by assumption) | omega | (exact absurd (by assumption) q))⟩) | (rw [if_neg (by omega)]; exact ⟨by omega, by assumption⟩))
          | (refine B3 rfl (fun e => ?_); unfold Msg.OK at e; obtain ⟨e1, e2, e3, e4, e5, e6⟩ := e; first | omega | (rw [if_pos (by omega)] at e6; obtain ⟨f1, f2, f3⟩ := e6; first | omega | exact absurd (f3.2 (by omega)) (by first | assumption | (intro q; exact q (by assumption))) | exact absurd (f3.1 (by assumption)) (by omega)) | (rw [if_neg (by omega)] at e6; first | omega | exact absurd e6.2 (by assumption)))
        ·first
         | (refine B4 rfl ?_; unfold Msg.OK; refine ⟨by omega, by omega, by omega, by omega, by omega, ?_⟩; first | (rw [if_pos (by omega)]; exact ⟨by omega, by omega, (by constructor <;> intro q <;> first | assumption | exact absurd q (by assumption) | omega | (exact absurd (by assumption) q))⟩) | (rw [if_neg (by omega)]; exact ⟨by omega, by assumption⟩))
         | (refine B3 rfl (fun e => ?_); unfold Msg.OK at e; obtain ⟨e1, e2, e3, e4, e5, e6⟩ := e; first | omega | (rw [if_pos (by omega)] at e6; obtain ⟨f1, f2, f3⟩ := e6; first | omega | exact absurd (f3.2 (by omega)) (by first | assumption | (intro q; exact q (by assumption))) | exact absurd (f3.1 (by assumption)) (by omega)) | (rw [if_neg (by omega)] at e6; first | omega | exact absurd e6.2 (by assumption)))
       ·refine br ?_ ?_ <;> intro h7_0
        ·refine A4 ?_
         refine B6 (s50 _ _ _) rfl j2 ?_ ?_ <;> intro h8_2
         ·refine A4 ?_
          refine br ?_ ?_ <;> intro h8_7
          ·refine A4 ?_
           refine br ?_ ?_ <;> intro h8_12
           ·first
            | (refine B4 rfl ?_; unfold Msg.OK; refine ⟨by omega, by omega, by omega, by omega, by omega, ?_⟩; first | (rw [if_pos (by omega)]; exact ⟨by omega, by omega, (by constructor <;> intro q <;> first | assumption | exact absurd q (by assumption) | omega | (exact absurd (by assumption) q))⟩) | (rw [if_neg (by omega)]; exact ⟨by omega, by assumption⟩))
            | (refine B3 rfl (fun e => ?_); unfold Msg.OK at e; obtain ⟨e1, e2, e3, e4, e5, e6⟩ := e; first | omega | (rw [if_pos (by omega)] at e6; obtain ⟨f1, f2, f3⟩ := e6; first | omega | exact absurd (f3.2 (by omega)) (by first | assumption | (intro q; exact q (by assumption))) | exact absurd (f3.1 (by assumption)) (by omega)) | (rw [if_neg (by omega)] at e6; first | omega | exact absurd e6.2 (by assumption)))
           ·first
            | (refine B4 rfl ?_; unfold Msg.OK; refine ⟨by omega, by omega, by omega, by omega, by omega, ?_⟩; first | (rw [if_pos (by omega)]; exact ⟨by omega, by omega, (by constructor <;> intro q <;> first | assumption | exact absurd q (by assumption) | omega | (exact absurd (by assumption) q))⟩) | (rw [if_neg (by omega)]; exact ⟨by omega, by assumption⟩))
            | (refine B3 rfl (fun e => ?_); unfold Msg.OK at e; obtain ⟨e1, e2, e3, e4, e5, e6⟩ := e; first | omega | (rw [if_pos (by omega)] at e6; obtain ⟨f1, f2, f3⟩ := e6; first | omega | exact absurd (f3.2 (by omega)) (by first | assumption | (intro q; exact q (by assumption))) | exact absurd (f3.1 (by assumption)) (by omega)) | (rw [if_neg (by omega)] at e6; first | omega | exact absurd e6.2 (by assumption)))
          ·first
           | (refine B4 rfl ?_; unfold Msg.OK; refine ⟨by omega, by omega, by omega, by omega, by omega, ?_⟩; first | (rw [if_pos (by omega)]; exact ⟨by omega, by omega, (by constructor <;> intro q <;> first | assumption | exact absurd q (by assumption) | omega | (exact absurd (by assumption) q))⟩) | (rw [if_neg (by omega)]; exact ⟨by omega, by assumption⟩))
           | (refine B3 rfl (fun e => ?_); unfold Msg.OK at e; obtain ⟨e1, e2, e3, e4, e5, e6⟩ := e; first | omega | (rw [if_pos (by omega)] at e6; obtain ⟨f1, f2, f3⟩ := e6; first | omega | exact absurd (f3.2 (by omega)) (by first | assumption | (intro q; exact q (by assumption))) | exact absurd (f3.1 (by assumption)) (by omega)) | (rw [if_neg (by omega)] at e6; first | omega | exact absurd e6.2 (by assumption)))
         ·first
          | (refine B4 rfl ?_; unfold Msg.OK; refine ⟨by omega, by omega, by omega, by omega, by omega, ?_⟩; first | (rw [if_pos (by omega)]; exact ⟨by omega, by omega, (by constructor <;> intro q <;> first | assumption | exact absurd q (by assumption) | omega | (exact absurd (by assumption) q))⟩) | (rw [if_neg (by omega)]; exact ⟨by omega, by assumption⟩))
          | (refine B3 rfl (fun e => ?_); unfold Msg.OK at e; obtain ⟨e1, e2, e3, e4, e5, e6⟩ := e; first | omega | (rw [if_pos (by omega)] at e6; obtain ⟨f1, f2, f3⟩ := e6; first | omega | exact absurd (f3.2 (by omega)) (by first | assumption | (intro q; exact q (by assumption))) | exact absurd (f3.1 (by assumption)) (by omega)) | (rw [if_neg (by omega)] at e6; first | omega | exact absurd e6.2 (by assumption)))
        ·refine A4 ?_
         refine br ?_ ?_ <;> intro h9_2
         ·refine A4 ?_
          refine br ?_ ?_ <;> intro h9_6
          ·first
           | (refine B4 rfl ?_; unfold Msg.OK; refine ⟨by omega, by omega, by omega, by omega, by omega, ?_⟩; first | (rw [if_pos (by omega)]; exact ⟨by omega, by omega, (by constructor <;> intro q <;> first | assumption | exact absurd q (by assumption) | omega | (exact absurd (by assumption) q))⟩) | (rw [if_neg (by omega)]; exact ⟨by omega, by assumption⟩))
           | (refine B3 rfl (fun e => ?_); unfold Msg.OK at e; obtain ⟨e1, e2, e3, e4, e5, e6⟩ := e; first | omega | (rw [if_pos (by omega)] at e6; obtain ⟨f1, f2, f3⟩ := e6; first | omega | exact absurd (f3.2 (by omega)) (by first | assumption | (intro q; exact q (by assumption))) | exact absurd (f3.1 (by assumption)) (by omega)) | (rw [if_neg (by omega)] at e6; first | omega | exact absurd e6.2 (by assumption)))
          ·first
           | (refine B4 rfl ?_; unfold Msg.OK; refine ⟨by omega, by omega, by omega, by omega, by omega, ?_⟩; first | (rw [if_pos (by omega)]; exact ⟨by omega, by omega, (by constructor <;> intro q <;> first | assumption | exact absurd q (by assumption) | omega | (exact absurd (by assumption) q))⟩) | (rw [if_neg (by omega)]; exact ⟨by omega, by assumption⟩))
           | (refine B3 rfl (fun e => ?_); unfold Msg.OK at e; obtain ⟨e1, e2, e3, e4, e5, e6⟩ := e; first | omega | (rw [if_pos (by omega)] at e6; obtain ⟨f1, f2, f3⟩ := e6; first | omega | exact absurd (f3.2 (by omega)) (by first | assumption | (intro q; exact q (by assumption))) | exact absurd (f3.1 (by assumption)) (by omega)) | (rw [if_neg (by omega)] at e6; first | omega | exact absurd e6.2 (by assumption)))
         ·first
          | (refine B4 rfl ?_; unfold Msg.OK; refine ⟨by omega, by omega, by omega, by omega, by omega, ?_⟩; first | (rw [if_pos (by omega)]; exact ⟨by omega, by omega, (by constructor <;> intro q <;> first | assumption | exact absurd q (by assumption) | omega | (exact absurd (by assumption) q))⟩) | (rw [if_neg (by omega)]; exact ⟨by omega, by assumption⟩))
          | (refine B3 rfl (fun e => ?_); unfold Msg.OK at e; obtain ⟨e1, e2, e3, e4, e5, e6⟩ := e; first | omega | (rw [if_pos (by omega)] at e6; obtain ⟨f1, f2, f3⟩ := e6; first | omega | exact absurd (f3.2 (by omega)) (by first | assumption | (intro q; exact q (by assumption))) | exact absurd (f3.1 (by assumption)) (by omega)) | (rw [if_neg (by omega)] at e6; first | omega | exact absurd e6.2 (by assumption)))
   ·first
    | (refine B4 rfl ?_; unfold Msg.OK; refine ⟨by omega, by omega, by omega, by omega, by omega, ?_⟩; first | (rw [if_pos (by omega)]; exact ⟨by omega, by omega, (by constructor <;> intro q <;> first | assumption | exact absurd q (by assumption) | omega | (exact absurd (by assumption) q))⟩) | (rw [if_neg (by omega)]; exact ⟨by omega, by assumption⟩))
    | (refine B3 rfl (fun e => ?_); unfold Msg.OK at e; obtain ⟨e1, e2, e3, e4, e5, e6⟩ := e; first | omega | (rw [if_pos (by omega)] at e6; obtain ⟨f1, f2, f3⟩ := e6; first | omega | exact absurd (f3.2 (by omega)) (by first | assumption | (intro q; exact q (by assumption))) | exact absurd (f3.1 (by assumption)) (by omega)) | (rw [if_neg (by omega)] at e6; first | omega | exact absurd e6.2 (by assumption)))
  ·first
   | (refine B4 rfl ?_; unfold Msg.OK; refine ⟨by omega, by omega, by omega, by omega, by omega, ?_⟩; first | (rw [if_pos (by omega)]; exact ⟨by omega, by omega, (by constructor <;> intro q <;> first | assumption | exact absurd q (by assumption) | omega | (exact absurd (by assumption) q))⟩) | (rw [if_neg (by omega)]; exact ⟨by omega, by assumption⟩))
   | (refine B3 rfl (fun e => ?_); unfold Msg.OK at e; obtain ⟨e1, e2, e3, e4, e5, e6⟩ := e; first | omega | (rw [if_pos (by omega)] at e6; obtain ⟨f1, f2, f3⟩ := e6; first | omega | exact absurd (f3.2 (by omega)) (by first | assumption | (intro q; exact q (by assumption))) | exact absurd (f3.1 (by assumption)) (by omega)) | (rw [if_neg (by omega)] at e6; first | omega | exact absurd e6.2 (by assumption)))
 ·first
  | (refine B4 rfl ?_; unfold Msg.OK; refine ⟨by omega, by omega, by omega, by omega, by omega, ?_⟩; first | (rw [if_pos (by omega)]; exact ⟨by omega, by omega, (by constructor <;> intro q <;> first | assumption | exact absurd q (by assumption) | omega | (exact absurd (by assumption) q))⟩) | (rw [if_neg (by omega)]; exact ⟨by omega, by assumption⟩))
  | (refine B3 rfl (fun e => ?_); unfold Msg.OK at e; obtain ⟨e1, e2, e3, e4, e5, e6⟩ := e; first | omega | (rw [if_pos (by omega)] at e6; obtain ⟨f1, f2, f3⟩ := e6; first | omega | exact absurd (f3.2 (by omega)) (by first | assumption | (intro q; exact q (by assumption))) | exact absurd (f3.1 (by assumption)) (by omega)) | (rw [if_neg (by omega)] at e6; first | omega | exact absurd e6.2 (by assumption)))
theorem r222 (x : Bt) (b : Bool) : Pure En 222 [.agg (x.T b)] [.one (.bool (decide x.OK))] := by
 have hl : (x.rs.map Rg.T).length = x.rs.length := List.length_map ..
 refine Pure.of_ev (st := []) Tryz.func222 rfl kb ?_
 refine A4 ?_
 refine brB ?_ ?_ <;> intro h1_1
 ·(apply D2 (vs := [.int _ _, .int _ _, .int _ _, .int _ _, .str _]) j2; exact Q0; rfl; rfl; exact kb; rfl)
  refine eSeql j3 (by kernel_rfl) (eqRqZ x.rq) ?_ ?_ <;> intro h2_3
  ·refine A4 ?_
   refine br ?_ ?_ <;> intro h2_8
   ·first
    | (refine B4 rfl ?_; unfold Bt.OK; rw [if_pos h1_1]; exact ⟨of_decide_eq_true h2_3, by omega⟩)
    | (refine B3 rfl (fun e => ?_); unfold Bt.OK at e; rw [if_pos h1_1] at e; first | exact absurd e.1 (of_decide_eq_false h2_3) | (have := e.2; omega))
   ·first
    | (refine B4 rfl ?_; unfold Bt.OK; rw [if_pos h1_1]; exact ⟨of_decide_eq_true h2_3, by omega⟩)
    | (refine B3 rfl (fun e => ?_); unfold Bt.OK at e; rw [if_pos h1_1] at e; first | exact absurd e.1 (of_decide_eq_false h2_3) | (have := e.2; omega))
  ·first
   | (refine B4 rfl ?_; unfold Bt.OK; rw [if_pos h1_1]; exact ⟨of_decide_eq_true h2_3, by omega⟩)
   | (refine B3 rfl (fun e => ?_); unfold Bt.OK at e; rw [if_pos h1_1] at e; first | exact absurd e.1 (of_decide_eq_false h2_3) | (have := e.2; omega))
 ·(apply D2 (vs := [.int _ _, .int _ _, .int _ _, .int _ _, .str _]) j2; exact Q0; rfl; rfl; exact kb; rfl)
  refine B6 (s52 x.rq) rfl j2 ?_ ?_ <;> intro h3_2
  ·refine A4 ?_
   refine br ?_ ?_ <;> intro h3_8
   ·refine B3 rfl (fun e => ?_); unfold Bt.OK at e; rw [if_neg (by rw [h1_1]; exact Bool.noConfusion)] at e; first | exact absurd e.1 h3_2 | (have := e.2.1; omega)
   ·refine A9 (fun (i : Nat) => [.unk, .ptr 0 0 0, .unk, .int .i64 i]) (fun (i : Nat) => hp [(0, ⟨[[.bool x.nl, .int .i64 x.rq.cl, .int .i64 x.rq.st, .int .i64 x.rq.kd, .int .i64 x.rq.le, .str x.rq.nm, .sl false b (x.rs.map Rg.T)]], 7, 200⟩)]) (fun (i : Nat) => 1) (fun (i : Nat) => i ≤ x.rs.length ∧ ∀ j, j < i → (x.rs.getD j Rg0).OK ∧ (0 < j → (x.rs.getD (j - 1) Rg0).fr < (x.rs.getD j Rg0).fr)) (fun (i : Nat) => x.rs.length - i) 0 ?_ ?_ ?_ ?_ ?_
    ·exact ⟨Nat.zero_le _, S9⟩
    ·(repeat first | exact LE.nil _ | refine LE.unk _ _ ?_ | refine LE.eq _ _ _ rfl ?_)
    ·(repeat first | exact B8 | (refine C0 ?_ ?_; (first | exact Q0 | fail)))
    ·exact Nat.le_refl _
    intro i hI ih
    obtain ⟨q0, q2⟩ := hI
    refine A7 (st := []) ?_
    refine A4 ?_
    refine br ?_ ?_ <;> intro h6_4
    ·refine A4 ?_
     (refine C2 (D7 (by first | rfl | assumption | exact Q38) rfl ?_))
     refine B6 (r223 (x.rs.getD i Rg0)) rfl j2 ?_ ?_ <;> intro h8_5
     ·refine br ?_ ?_ <;> intro h8_9
      ·refine A4 ?_
       refine B7 ?_
       (refine C2 (D7 (by first | rfl | assumption | exact Q38) rfl ?_))
       refine A4 ?_
       (refine C2 (D7 (by first | rfl | assumption | exact Q38) rfl ?_))
       refine br ?_ ?_ <;> intro h8_24
       ·refine B3 rfl (fun e => ?_); unfold Bt.OK at e; rw [if_neg (by rw [h1_1]; exact Bool.noConfusion)] at e; first | exact absurd (e.2.2 i (by omega)).1 h8_5 | (have := (e.2.2 i (by omega)).2 (by omega); omega)
       ·refine B7 ?_
        exact C6 (ih (i + 1) ⟨by omega, U5 q2 ⟨h8_5, fun _ => by omega⟩⟩ (by omega)) (by (repeat first | exact LE.nil _ | refine LE.unk _ _ ?_ | refine LE.eq _ _ _ rfl ?_)) (by (repeat first | exact B8 | (refine C0 ?_ ?_; (first | exact Q0 | fail)))) (Nat.le_refl _)
      ·refine B7 ?_
       exact C6 (ih (i + 1) ⟨by omega, U5 q2 ⟨h8_5, fun _ => by omega⟩⟩ (by omega)) (by (repeat first | exact LE.nil _ | refine LE.unk _ _ ?_ | refine LE.eq _ _ _ rfl ?_)) (by (repeat first | exact B8 | (refine C0 ?_ ?_; (first | exact Q0 | fail)))) (Nat.le_refl _)
     ·refine B3 rfl (fun e => ?_); unfold Bt.OK at e; rw [if_neg (by rw [h1_1]; exact Bool.noConfusion)] at e; first | exact absurd (e.2.2 i (by omega)).1 h8_5 | (have := (e.2.2 i (by omega)).2 (by omega); omega)
    ·refine B4 rfl ?_; unfold Bt.OK; rw [if_neg (by rw [h1_1]; exact Bool.noConfusion)]; exact ⟨h3_2, by omega, fun j hj => q2 j (by omega)⟩
  ·refine B3 rfl (fun e => ?_); unfold Bt.OK at e; rw [if_neg (by rw [h1_1]; exact Bool.noConfusion)] at e; first | exact absurd e.1 h3_2 | (have := e.2.1; omega)
open Go.V
set_option linter.unusedVariables false
set_option linter.unusedSimpArgs false
set_option maxRecDepth 20000
set_option maxHeartbeats 4000000
noncomputable instance dcRL (p : ByteArray) : Decidable (rqL p 0 ∧ (rqC p 0).OK) := Classical.propDecidable _
noncomputable def rqR (p : ByteArray) : Rq := if rqL p 0 then rqC p 0 else RqZ
def rqB (p : ByteArray) : Rq := ⟨bt p 0, num (p.extract 1 3) 0 (p.extract 1 3).size, bt p 3, num (p.extract 4 6) 0 (p.extract 4 6).size, p.extract 7 p.size⟩
theorem rqB_eq {p : ByteArray} (h : 7 ≤ p.size) : rqB p = rqC p 0 := by
 unfold rqB rqC
 rw [C5 (by omega), C5 (by omega), F0 (by omega) (by omega), F0 (by omega) (by omega), num_1, num_1]
theorem W4 {p : ByteArray} : rqL p 0 ↔ 7 ≤ p.size ∧ (p.size : Int) = 7 + bt p 6 := by
 unfold rqL
 rw [Nat.zero_add, Nat.zero_add, num_1]
 constructor <;> intro h <;> exact ⟨by omega, by have := h.2; omega⟩
theorem r220 (s : ByteArray) (h : s.size ≤ 6) : Pure En 220 [.one (.str s)] [.one (.int .i64 (num s 0 s.size))] := by
 refine Pure.of_ev (st := []) Tryz.func220 rfl kb ?_
 refine A9 (fun (i : Nat) => [.str s, .unk, .unk, .int .i64 (num s 0 i), .int .i64 i]) (fun (i : Nat) => fun _ => none) (fun (i : Nat) => 0) (fun (i : Nat) => i ≤ s.size) (fun (i : Nat) => s.size - i) 0 ?_ ?_ ?_ ?_ ?_
 ·exact Nat.zero_le _
 ·(repeat first | exact LE.nil _ | refine LE.unk _ _ ?_ | refine LE.eq _ _ _ rfl ?_)
 ·exact LessH.refl _
 ·exact Nat.le_refl _
 intro i hI ih
 have hn0 := K3 s 0 i
 have hn1 := num_lt s 0 i (by omega)
 have hb0 := U4 s i
 have hb1 := E7 s i
 have hst := num_s s i
 have hb2 := U4 s ((i : Int)).toNat
 have hb3 := E7 s ((i : Int)).toNat
 refine A7 (st := []) ?_
 refine br ?_ ?_ <;> intro h3_3
 ·refine D6 ⟨by exact Q7, by exact Q7⟩ ?_
  refine sd (by first | exact (by exact Q7) | exact ⟨by exact Q7, by exact Q7⟩) ?_
  refine cvF ⟨by exact Q30, by exact Q30⟩ ?_
  refine D6 ⟨by exact Q7, by exact Q7⟩ ?_
  refine D6 ⟨by exact Q7, by exact Q7⟩ ?_
  exact C6 (ih (i + 1) (by omega) (by omega)) (by (repeat first | exact LE.nil _ | refine LE.unk _ _ ?_ | refine LE.eq _ _ _ rfl ?_ | refine LE.eq _ _ _ (congrArg (V.int IntKind.i64) hst.symm) ?_)) (LessH.refl _) (Nat.le_refl _)
 ·obtain rfl : i = s.size := by omega
  exact E4 rfl rfl
theorem r221 (p : ByteArray) (hp : p.size ≤ 1000000) : Pure En 221 [.one (.str p)] [.agg (rqR p).T, .one (.bool (decide (rqL p 0 ∧ (rqC p 0).OK)))] := by
 refine Pure.of_ev (st := []) Tryz.func221 rfl kb ?_
 have hb6a := U4 p 6
 have hb6b := E7 p 6
 refine br ?_ ?_ <;> intro h1_2
 ·(apply est (u := .agg [.int _ _, .int _ _, .int _ _, .int _ _, .str _]) j3; exact Q0; rfl; exact j4; exact kb; rfl)
  have hno : ¬ rqL p 0 := by rw [W4]; omega
  rw [show rqR p = RqZ from if_neg hno, decide_eq_false (fun e => hno e.1)]
  refine C7 [] (A0 (A2 rfl (by exact Q0) j2 kb rfl) (A0 rfl A1)) ?_
  exact (SnapL.cons _ _ _ _ (SnapC.agg (.cons _ _ _ _ (.int _ _) (.cons _ _ _ _ (.int _ _) (.cons _ _ _ _ (.int _ _) (.cons _ _ _ _ (.int _ _) (.cons _ _ _ _ (.str _) .nil)))))) (SnapL.cons _ _ _ _ (.one _ _ (.bool _)) SnapL.nil))
 ·refine lit 6 rfl (sd (by first | omega | exact Int.ofNat_lt.1 (by exact Q7)) ?_)
  refine cvF ⟨by exact Q30, by exact Q30⟩ ?_
  refine D6 ⟨by exact Q7, by exact Q7⟩ ?_
  refine br ?_ ?_ <;> intro h1_10
  ·(apply est (u := .agg [.int _ _, .int _ _, .int _ _, .int _ _, .str _]) j3; exact Q0; rfl; exact j4; exact kb; rfl)
   have hno : ¬ rqL p 0 := by rw [W4]; omega
   rw [show rqR p = RqZ from if_neg hno, decide_eq_false (fun e => hno e.1)]
   refine C7 [] (A0 (A2 rfl (by exact Q0) j2 kb rfl) (A0 rfl A1)) ?_
   exact (SnapL.cons _ _ _ _ (SnapC.agg (.cons _ _ _ _ (.int _ _) (.cons _ _ _ _ (.int _ _) (.cons _ _ _ _ (.int _ _) (.cons _ _ _ _ (.int _ _) (.cons _ _ _ _ (.str _) .nil)))))) (SnapL.cons _ _ _ _ (.one _ _ (.bool _)) SnapL.nil))
  ·refine lit 0 rfl (sd (by first | omega | exact Int.ofNat_lt.1 (by exact Q7)) ?_)
   refine cvF ⟨by exact Q30, by exact Q30⟩ ?_
   refine sd ⟨by exact Q7, by exact Q7, by exact Q7⟩ ?_
   refine C8 (r220 (p.extract 1 3) (by rw [C5 (by omega)]; omega)) rfl rfl rfl ?_
   refine lit 3 rfl (sd (by first | omega | exact Int.ofNat_lt.1 (by exact Q7)) ?_)
   refine cvF ⟨by exact Q30, by exact Q30⟩ ?_
   refine sd ⟨by exact Q7, by exact Q7, by exact Q7⟩ ?_
   refine C8 (r220 (p.extract 4 6) (by rw [C5 (by omega)]; omega)) rfl rfl rfl ?_
   refine sd ⟨by exact Q7, by exact Q7, by exact Q7⟩ ?_
   (apply est (u := .agg [.int _ _, .int _ _, .int _ _, .int _ _, .str _]) j3; exact Q0; rfl; exact j4; exact kb; rfl)
   refine F6 ?_
   (apply D2 (vs := [.int _ _, .int _ _, .int _ _, .int _ _, .str _]) j2; exact Q0; rfl; rfl; exact kb; rfl)
   (apply D2 (vs := [.int _ _, .int _ _, .int _ _, .int _ _, .str _]) j2; exact Q0; rfl; rfl; exact kb; rfl)
   refine B6 (s52 (rqB p)) rfl j2 ?_ ?_ <;> intro h4_2
   ·(apply est (u := .agg [.int _ _, .int _ _, .int _ _, .int _ _, .str _]) j3; exact Q0; rfl; exact j4; exact kb; rfl)
    refine F6 ?_
    have hyes : rqL p 0 := by rw [W4]; omega
    have he : rqB p = rqC p 0 := rqB_eq (by omega)
    rw [show rqR p = rqB p from (if_pos hyes).trans he.symm]
    first
    | rw [decide_eq_true (show rqL p 0 ∧ (rqC p 0).OK from ⟨hyes, by rw [← he]; exact h4_2⟩)]
    | rw [decide_eq_false (show ¬ (rqL p 0 ∧ (rqC p 0).OK) from fun e => h4_2 (by rw [he]; exact e.2))]
    refine C7 [] (A0 (A2 rfl (by exact Q0) j2 kb rfl) (A0 rfl A1)) ?_
    exact (SnapL.cons _ _ _ _ (SnapC.agg (.cons _ _ _ _ (.int _ _) (.cons _ _ _ _ (.int _ _) (.cons _ _ _ _ (.int _ _) (.cons _ _ _ _ (.int _ _) (.cons _ _ _ _ (.str _) .nil)))))) (SnapL.cons _ _ _ _ (.one _ _ (.bool _)) SnapL.nil))
   ·(apply est (u := .agg [.int _ _, .int _ _, .int _ _, .int _ _, .str _]) j3; exact Q0; rfl; exact j4; exact kb; rfl)
    refine F6 ?_
    have hyes : rqL p 0 := by rw [W4]; omega
    have he : rqB p = rqC p 0 := rqB_eq (by omega)
    rw [show rqR p = rqB p from (if_pos hyes).trans he.symm]
    first
    | rw [decide_eq_true (show rqL p 0 ∧ (rqC p 0).OK from ⟨hyes, by rw [← he]; exact h4_2⟩)]
    | rw [decide_eq_false (show ¬ (rqL p 0 ∧ (rqC p 0).OK) from fun e => h4_2 (by rw [he]; exact e.2))]
    refine C7 [] (A0 (A2 rfl (by exact Q0) j2 kb rfl) (A0 rfl A1)) ?_
    exact (SnapL.cons _ _ _ _ (SnapC.agg (.cons _ _ _ _ (.int _ _) (.cons _ _ _ _ (.int _ _) (.cons _ _ _ _ (.int _ _) (.cons _ _ _ _ (.int _ _) (.cons _ _ _ _ (.str _) .nil)))))) (SnapL.cons _ _ _ _ (.one _ _ (.bool _)) SnapL.nil))
open Go.V
set_option linter.unusedVariables false
set_option linter.unusedSimpArgs false
set_option maxRecDepth 20000
set_option maxHeartbeats 4000000
theorem r153 (b : ByteArray) (hb : b.size ≤ 900000) : Pure En 153 [.one (.str b)] [.one (.str (dgB b))] := by
 refine Pure.of_ev (st := []) Tryz.func153 rfl kb ?_
 refine sd (by (first | omega | assumption | (show 5 + _ ≤ _; omega))) ?_
 refine ebt j5 ?_
 apply T3 [0] (s103s true (litB ++ b) (by rw [ByteArray.size_append]; show 5 + _ ≤ _; omega)) rfl rfl rfl
 ·refine SnapL.cons _ _ _ _ (.one _ _ (snapS (List.mem_singleton.2 rfl) ?_ rfl)) SnapL.nil
  exact Q0
 exact E4 rfl rfl
open Go.V
set_option linter.unusedVariables false
set_option linter.unusedSimpArgs false
set_option maxRecDepth 20000
set_option maxHeartbeats 4000000
def ckL (vl : Int) : List Int := [99, 108, 111, 99, 107] ++ numL vl 4
theorem ckL_str (vl : Int) : V.strOw (ckL vl) = litC ++ Nm vl 4 := by
 unfold ckL; rw [B5, F8]; rfl
theorem ckL_len (vl : Int) : (ckL vl).length = 9 := by unfold ckL; rw [List.length_append, A5]; rfl
theorem ckL_bytes (vl : Int) : bytes (ckL vl) := J2 (fun b hb => by simp at hb; omega) (O5 vl 4 (by decide))
theorem r224 (fr vl : Int) : Pure En 224 [.one (.int .i64 fr), .one (.int .i64 vl)] [.one (.str (rdM fr vl))] := by
 refine Pure.of_ev (st := []) Tryz.func224 rfl kb ?_
 refine D3 (es := [[.int _ _], [.int _ _], [.int _ _], [.int _ _], [.int _ _]]) j4 kz kb rfl rfl ?_
 (apply emk8 j2; exact Q0; rfl; exact ⟨rfl, rfl⟩)
 refine C8 (s105 vl 4 (by decide)) rfl rfl rfl ?_
 (apply eap (s' := 1) rfl rfl; exact Q0; exact j2; (first | rfl | (focus (simp only [List.length_append, List.length_drop, List.length_map, List.length_cons, List.length_nil, A5, Nat.sub_zero, Nat.zero_add]; done)) | (focus (simp only [List.length_append, List.length_drop, List.length_map, List.length_cons, List.length_nil, A5, Nat.sub_zero, Nat.zero_add]; omega))); exact j2; exact kz; rfl; exact (K8 true (numL vl 4)); (first | exact kb | (focus (simp only [List.length_append, List.length_drop, List.length_map, List.length_cons, List.length_nil, A5, Nat.sub_zero, Nat.zero_add]; omega)) | omega); (first | exact kb | (focus (simp only [List.length_append, List.length_drop, List.length_map, List.length_cons, List.length_nil, A5, Nat.sub_zero, Nat.zero_add]; omega)) | omega))
 apply T3 [1] (s91 fr true (ckL vl) (by rw [ckL_len]; decide) (ckL_bytes vl)) rfl rfl rfl
 ·refine SnapL.cons _ _ _ _ (.one _ _ (.int _ _)) (SnapL.cons _ _ _ _ (.one _ _ (N5 (List.mem_singleton.2 rfl) ?_ ?_)) SnapL.nil)
  ·((simp (disch := omega) only [↓app0, ↓appC, ↓updS, ↓updN, ↓hpS, ↓hpN]); exact congrArg (fun z => some (Blk.mk z 1 5)) (by unfold ckL; rw [List.map_append, rowsBf]; rfl))
  ·(rw [ckL_len]; (first | rfl | (focus (simp only [List.length_append, List.length_drop, List.length_map, List.length_cons, List.length_nil, A5, Nat.sub_zero, Nat.zero_add]; done)) | (focus (simp only [List.length_append, List.length_drop, List.length_map, List.length_cons, List.length_nil, A5, Nat.sub_zero, Nat.zero_add]; omega))))
 unfold rdM; rw [← ckL_str]; exact E4 rfl rfl
open Go.V
set_option linter.unusedVariables false
set_option linter.unusedSimpArgs false
set_option maxRecDepth 20000
set_option maxHeartbeats 4000000
theorem P8 (s : ByteArray) : ∀ c ∈ (s.data.toList.map fun b => [V.int .u8 (b.toNat : Int)]), c.length = 1 := by simp
def plnL (m : Msg) : List Int := [IntKind.u8.wrap m.kd, IntKind.u8.wrap m.vw, IntKind.u8.wrap m.sq, IntKind.u8.wrap m.fr, IntKind.u8.wrap m.dg.size] ++ byt m.dg ++ numL m.bd.size 2 ++ byt m.bd
theorem plnL_str (m : Msg) : V.strOw (plnL m) = bare m := by
 unfold plnL bare
 rw [B5, B5, B5, G6, G6, F8, F8, F8, F8, F8, F8, K4, K4, K4, K4, K4, ← B5, ← B5, ← B5, ← B5]; rfl
theorem Y3 (m : Msg) : bytes (plnL m) := by
 unfold plnL
 refine J2 (J2 (J2 (fun b hb => ?_) (U1 _)) (O5 _ 2 (by decide))) (U1 _)
 simp only [List.mem_cons, List.not_mem_nil, or_false] at hb
 rcases hb with h | h | h | h | h <;> (rw [h]; exact u8_in _)
theorem H0 (m : Msg) : (plnL m).length = 7 + m.dg.size + m.bd.size := by
 unfold plnL; rw [List.length_append, List.length_append, List.length_append, A5, C4, C4]; show 5 + _ + _ + _ = _; omega
theorem D8 (s : ByteArray) : s.data.toList.length = s.size := rfl
theorem D1 (s : ByteArray) : s.data.size = s.size := rfl
theorem r167 (m : Msg) (hd : m.dg.size ≤ 1000) (hb : m.bd.size ≤ 20000) : Pure En 167 [.agg m.T] [.one (.sl true ((plnL m).map bT))] := by
 refine Pure.of_ev (st := []) Tryz.func167 rfl kb ?_
 refine A4 ?_
 refine A4 ?_
 refine A4 ?_
 refine A4 ?_
 refine A4 ?_
 refine D3 (es := [[.int _ _], [.int _ _], [.int _ _], [.int _ _], [.int _ _]]) j4 kz kb rfl rfl ?_
 refine A4 ?_
 (apply eap (s' := 1) rfl rfl; exact Q0; exact j2; exact Q17; exact j2; exact kz; rfl; exact (P8 m.dg); exact Q19; exact Q19)
 refine A4 ?_
 refine C8 (s105 m.bd.size 2 (by decide)) rfl rfl rfl ?_
 (apply eap (s' := 1) rfl rfl; exact Q0; exact j2; exact Q17; exact j2; exact kz; rfl; exact (K8 true (numL m.bd.size 2)); exact Q19; exact Q19)
 refine clr 10 [0, 3, 0, 0, 1, 0, 3, 1, 0, 0] [(3, 5)] j2 (by decide +kernel) ?_ ?_
 ·first | (simp [ClearL, ids]; done) | (simp [ClearL, ids]; omega) | (simp [ClearL, ids, srcIds, Env.eval, put, upd, retV, A.toV, T.toV]; try omega)
 refine A4 ?_
 (apply eap (s' := 1) rfl rfl; exact Q0; exact j2; exact Q17; exact j2; exact kz; rfl; exact (P8 m.bd); exact Q19; exact Q19)
 refine C7 [4] (A0 rfl A1) (SnapL.cons _ _ _ _ (.one _ _ (N5 (List.mem_singleton.2 rfl) ?_ ?_)) SnapL.nil)
 ·((simp (disch := omega) only [↓app0, ↓appC, ↓updS, ↓updN, ↓hpS, ↓hpN]); exact congrArg (fun z => some (Blk.mk z 1 5)) (by unfold plnL; rw [List.map_append, List.map_append, List.map_append, ← bytRows, ← bytRows, List.drop_zero, List.drop_zero, List.drop_zero, rowsBf]; rfl))
 ·(rw [H0]; exact Q17)
open Go.V
set_option linter.unusedVariables false
set_option linter.unusedSimpArgs false
set_option maxRecDepth 20000
set_option maxHeartbeats 4000000
noncomputable instance dcSg2 (n : Int) (m : Msg) : Decidable (sgd mk bare n m) := Classical.propDecidable _
theorem r93 (n : Int) (m : Msg) : Pure En 93 [.one (.int .i64 n), .agg m.T] [.one (.bool (decide (sgd mk bare n m)))] := by
 refine Pure.of_ev (st := []) Tryz.func93 rfl kb ?_
 (apply D2 (vs := [.int _ _, .int _ _, .int _ _, .int _ _, .str _, .str _, .str _]) j2; exact Q0; rfl; rfl; exact kb; rfl)
 refine B6 (r165 m) rfl j2 ?_ ?_ <;> intro h1_1
 ·refine A4 ?_
  refine br ?_ ?_ <;> intro h1_6
  ·refine A4 ?_
   (apply D2 (vs := [.int _ _, .int _ _, .int _ _, .int _ _, .str _, .str _, .str _]) j2; exact Q0; rfl; rfl; exact kb; rfl)
   refine C8 (r167 m (by have := h1_1.dz; omega) h1_1.2.2.2.2.1) rfl rfl rfl ?_
   refine C8 (s91 m.fr true (plnL m) (by rw [H0]; have := h1_1.dz; have := h1_1.2.2.2.2.1; omega) (Y3 m)) rfl rfl rfl ?_
   refine A4 ?_
   refine br ?_ ?_ <;> intro h1_16
   ·first
    | (refine B4 rfl ?_; exact ⟨by assumption, by assumption, by rw [← plnL_str]; exact Eq.symm (by assumption)⟩)
    | (refine B3 rfl ?_; rintro ⟨q1, q2, q3⟩; rw [← plnL_str] at q3; first | exact absurd q1 (by assumption) | exact absurd q2 (by assumption) | exact absurd q3.symm (by assumption))
   ·first
    | (refine B4 rfl ?_; exact ⟨by assumption, by assumption, by rw [← plnL_str]; exact Eq.symm (by assumption)⟩)
    | (refine B3 rfl ?_; rintro ⟨q1, q2, q3⟩; rw [← plnL_str] at q3; first | exact absurd q1 (by assumption) | exact absurd q2 (by assumption) | exact absurd q3.symm (by assumption))
  ·first
   | (refine B4 rfl ?_; exact ⟨by assumption, by assumption, by rw [← plnL_str]; exact Eq.symm (by assumption)⟩)
   | (refine B3 rfl ?_; rintro ⟨q1, q2, q3⟩; rw [← plnL_str] at q3; first | exact absurd q1 (by assumption) | exact absurd q2 (by assumption) | exact absurd q3.symm (by assumption))
 ·first
  | (refine B4 rfl ?_; exact ⟨by assumption, by assumption, by rw [← plnL_str]; exact Eq.symm (by assumption)⟩)
  | (refine B3 rfl ?_; rintro ⟨q1, q2, q3⟩; rw [← plnL_str] at q3; first | exact absurd q1 (by assumption) | exact absurd q2 (by assumption) | exact absurd q3.symm (by assumption))
open Go.V
set_option linter.unusedVariables false
set_option linter.unusedSimpArgs false
set_option maxRecDepth 20000
set_option maxHeartbeats 4000000
def mR (p : ByteArray) : Msg := if msL p then msC p else Msg0
def msN (p : ByteArray) : Nat := (num p (msD p) 2).toNat
def mB (p : ByteArray) : Msg := ⟨bt p 0, bt p 1, bt p 2, bt p 3, p.extract 5 (msD p), p.extract (msD p + 2) (msD p + 2 + msN p), p.extract (msD p + 2 + msN p) p.size⟩
theorem mB_eq (p : ByteArray) : mB p = msC p := by unfold mB msC; rw [num_1, num_1, num_1, num_1]; rfl
theorem T4 (p : ByteArray) : msE p = msD p + 2 + msN p := rfl
theorem r227 (p : ByteArray) (hp : p.size ≤ 1000000) : Pure En 227 [.one (.str p)] [.agg (mR p).T, .one (.bool (decide (mOK p)))] := by
 refine Pure.of_ev (st := []) Tryz.func227 rfl kb ?_
 have hb0 := U4 p 4
 have hb1 := E7 p 4
 have hn4 : num p 4 1 = bt p 4 := num_1 _ _
 refine br ?_ ?_ <;> intro h1_2
 ·(apply est (u := .agg [.int _ _, .int _ _, .int _ _, .int _ _, .str _, .str _, .str _]) j3; exact Q0; rfl; exact j4; exact kb; rfl)
  have hno : ¬ msL p := by
   rintro ⟨e1, e2, e3⟩
   rw [T4] at e3
   have hd : (5 + bt p 4 : Int) = ((msD p : Nat) : Int) := by unfold msD; rw [hn4]; omega
   omega
  rw [show mR p = Msg0 from if_neg hno, decide_eq_false (fun e : mOK p => hno e.1)]
  refine C7 [] (A0 (A2 rfl (by exact Q0) j2 kb rfl) (A0 rfl A1)) ?_
  exact (SnapL.cons _ _ _ _ (SnapC.agg (.cons _ _ _ _ (.int _ _) (.cons _ _ _ _ (.int _ _) (.cons _ _ _ _ (.int _ _) (.cons _ _ _ _ (.int _ _) (.cons _ _ _ _ (.str _) (.cons _ _ _ _ (.str _) (.cons _ _ _ _ (.str _) .nil)))))))) (SnapL.cons _ _ _ _ (.one _ _ (.bool _)) SnapL.nil))
 ·refine lit 4 rfl (sd (by first | omega | exact Int.ofNat_lt.1 (by exact Q7)) ?_)
  refine cvF ⟨by exact Q30, by exact Q30⟩ ?_
  refine D6 ⟨by exact Q7, by exact Q7⟩ ?_
  refine br ?_ ?_ <;> intro h1_10
  ·(apply est (u := .agg [.int _ _, .int _ _, .int _ _, .int _ _, .str _, .str _, .str _]) j3; exact Q0; rfl; exact j4; exact kb; rfl)
   have hno : ¬ msL p := by
    rintro ⟨e1, e2, e3⟩
    rw [T4] at e3
    have hd : (5 + bt p 4 : Int) = ((msD p : Nat) : Int) := by unfold msD; rw [hn4]; omega
    omega
   rw [show mR p = Msg0 from if_neg hno, decide_eq_false (fun e : mOK p => hno e.1)]
   refine C7 [] (A0 (A2 rfl (by exact Q0) j2 kb rfl) (A0 rfl A1)) ?_
   exact (SnapL.cons _ _ _ _ (SnapC.agg (.cons _ _ _ _ (.int _ _) (.cons _ _ _ _ (.int _ _) (.cons _ _ _ _ (.int _ _) (.cons _ _ _ _ (.int _ _) (.cons _ _ _ _ (.str _) (.cons _ _ _ _ (.str _) (.cons _ _ _ _ (.str _) .nil)))))))) (SnapL.cons _ _ _ _ (.one _ _ (.bool _)) SnapL.nil))
  ·refine lit 4 rfl (sd (by first | omega | exact Int.ofNat_lt.1 (by exact Q7)) ?_)
   refine cvF ⟨by exact Q30, by exact Q30⟩ ?_
   refine D6 ⟨by exact Q7, by exact Q7⟩ ?_
   have hd : (5 + bt p 4 : Int) = ((msD p : Nat) : Int) := by unfold msD; rw [hn4]; omega
   rw [hd]
   have hdl : msD p + 2 ≤ p.size := by omega
   refine D6 ⟨by exact Q7, by exact Q7⟩ ?_
   refine sd ⟨by exact Q7, by exact Q7, by exact Q7⟩ ?_
   refine C8 (r220 (p.extract (msD p) (msD p + 2)) (by rw [C5 hdl]; omega)) rfl rfl rfl ?_
   have hN : num (p.extract (msD p) (msD p + 2)) 0 (p.extract (msD p) (msD p + 2)).size = ((msN p : Nat) : Int) := by
    unfold msN
    rw [C5 hdl, Nat.add_sub_cancel_left, F0 hdl (by omega)]
    have := K3 p (msD p) 2
    show num p (msD p) 2 = _; omega
   rw [hN]
   have hNb : msN p ≤ 65535 := by have := S0 p (msD p); unfold msN; omega
   have hel := T4 p
   refine D6 ⟨by exact Q7, by exact Q7⟩ ?_
   refine D6 ⟨by exact Q7, by exact Q7⟩ ?_
   refine D6 ⟨by exact Q7, by exact Q7⟩ ?_
   refine br ?_ ?_ <;> intro h5_7
   ·(apply est (u := .agg [.int _ _, .int _ _, .int _ _, .int _ _, .str _, .str _, .str _]) j3; exact Q0; rfl; exact j4; exact kb; rfl)
    have hno : ¬ msL p := by
     rintro ⟨e1, e2, e3⟩
     rw [T4] at e3
     have hd : (5 + bt p 4 : Int) = ((msD p : Nat) : Int) := by unfold msD; rw [hn4]; omega
     omega
    rw [show mR p = Msg0 from if_neg hno, decide_eq_false (fun e : mOK p => hno e.1)]
    refine C7 [] (A0 (A2 rfl (by exact Q0) j2 kb rfl) (A0 rfl A1)) ?_
    exact (SnapL.cons _ _ _ _ (SnapC.agg (.cons _ _ _ _ (.int _ _) (.cons _ _ _ _ (.int _ _) (.cons _ _ _ _ (.int _ _) (.cons _ _ _ _ (.int _ _) (.cons _ _ _ _ (.str _) (.cons _ _ _ _ (.str _) (.cons _ _ _ _ (.str _) .nil)))))))) (SnapL.cons _ _ _ _ (.one _ _ (.bool _)) SnapL.nil))
   ·refine lit 0 rfl (sd (by first | omega | exact Int.ofNat_lt.1 (by exact Q7)) ?_)
    refine cvF ⟨by exact Q30, by exact Q30⟩ ?_
    refine lit 1 rfl (sd (by first | omega | exact Int.ofNat_lt.1 (by exact Q7)) ?_)
    refine cvF ⟨by exact Q30, by exact Q30⟩ ?_
    refine lit 2 rfl (sd (by first | omega | exact Int.ofNat_lt.1 (by exact Q7)) ?_)
    refine cvF ⟨by exact Q30, by exact Q30⟩ ?_
    refine lit 3 rfl (sd (by first | omega | exact Int.ofNat_lt.1 (by exact Q7)) ?_)
    refine cvF ⟨by exact Q30, by exact Q30⟩ ?_
    refine sd ⟨by exact Q7, by exact Q7, by exact Q7⟩ ?_
    refine D6 ⟨by exact Q7, by exact Q7⟩ ?_
    refine D6 ⟨by exact Q7, by exact Q7⟩ ?_
    refine D6 ⟨by exact Q7, by exact Q7⟩ ?_
    refine sd ⟨by exact Q7, by exact Q7, by exact Q7⟩ ?_
    refine D6 ⟨by exact Q7, by exact Q7⟩ ?_
    refine D6 ⟨by exact Q7, by exact Q7⟩ ?_
    refine sd ⟨by exact Q7, by exact Q7, by exact Q7⟩ ?_
    (apply est (u := .agg [.int _ _, .int _ _, .int _ _, .int _ _, .str _, .str _, .str _]) j3; exact Q0; rfl; exact j4; exact kb; rfl)
    refine F6 ?_
    (apply D2 (vs := [.int _ _, .int _ _, .int _ _, .int _ _, .str _, .str _, .str _]) j2; exact Q0; rfl; rfl; exact kb; rfl)
    (apply D2 (vs := [.int _ _, .int _ _, .int _ _, .int _ _, .str _, .str _, .str _]) j2; exact Q0; rfl; rfl; exact kb; rfl)
    refine B6 (r165 (mB p)) rfl j2 ?_ ?_ <;> intro h8_2
    ·(apply est (u := .agg [.int _ _, .int _ _, .int _ _, .int _ _, .str _, .str _, .str _]) j3; exact Q0; rfl; exact j4; exact kb; rfl)
     refine F6 ?_
     have hyes : msL p := ⟨by omega, hdl, by rw [T4]; omega⟩
     have he := mB_eq p
     rw [show mR p = mB p from (if_pos hyes).trans he.symm]
     first
     | rw [decide_eq_true (show mOK p from ⟨hyes, by rw [← he]; exact h8_2⟩)]
     | rw [decide_eq_false (show ¬ mOK p from fun e => h8_2 (by rw [he]; exact e.2))]
     refine C7 [] (A0 (A2 rfl (by exact Q0) j2 kb rfl) (A0 rfl A1)) ?_
     exact (SnapL.cons _ _ _ _ (SnapC.agg (.cons _ _ _ _ (.int _ _) (.cons _ _ _ _ (.int _ _) (.cons _ _ _ _ (.int _ _) (.cons _ _ _ _ (.int _ _) (.cons _ _ _ _ (.str _) (.cons _ _ _ _ (.str _) (.cons _ _ _ _ (.str _) .nil)))))))) (SnapL.cons _ _ _ _ (.one _ _ (.bool _)) SnapL.nil))
    ·(apply est (u := .agg [.int _ _, .int _ _, .int _ _, .int _ _, .str _, .str _, .str _]) j3; exact Q0; rfl; exact j4; exact kb; rfl)
     refine F6 ?_
     have hyes : msL p := ⟨by omega, hdl, by rw [T4]; omega⟩
     have he := mB_eq p
     rw [show mR p = mB p from (if_pos hyes).trans he.symm]
     first
     | rw [decide_eq_true (show mOK p from ⟨hyes, by rw [← he]; exact h8_2⟩)]
     | rw [decide_eq_false (show ¬ mOK p from fun e => h8_2 (by rw [he]; exact e.2))]
     refine C7 [] (A0 (A2 rfl (by exact Q0) j2 kb rfl) (A0 rfl A1)) ?_
     exact (SnapL.cons _ _ _ _ (SnapC.agg (.cons _ _ _ _ (.int _ _) (.cons _ _ _ _ (.int _ _) (.cons _ _ _ _ (.int _ _) (.cons _ _ _ _ (.int _ _) (.cons _ _ _ _ (.str _) (.cons _ _ _ _ (.str _) (.cons _ _ _ _ (.str _) .nil)))))))) (SnapL.cons _ _ _ _ (.one _ _ (.bool _)) SnapL.nil))
open Go.V
set_option linter.unusedVariables false
set_option linter.unusedSimpArgs false
set_option maxRecDepth 20000
set_option maxHeartbeats 4000000
structure LR where
 i : Nat
 l : List ByteArray
 o : Nat
 b : Nat
 m : Nat
 g : Heap
structure LRI (p : ByteArray) (a : LR) : Prop where
 il : (a.i : Int) ≤ bt p 0
 sg : sg p a.i = some (a.l, a.o)
 sh : short a.l
 out : a.g a.b = some ⟨a.l.map tV, 1, 9⟩
 bm : a.b < a.m
theorem lsC_at {p : ByteArray} (h1 : 1 ≤ p.size) (h2 : bt p 0 ≤ 100) {l : List ByteArray} {o : Nat} (h : sg p (bt p 0).toNat = some (l, o)) : lsC p = if o = p.size ∧ short l then some l else none := by
 unfold lsC
 rw [num_1, if_pos ⟨h1, h2⟩, h]
theorem lsC_cut {p : ByteArray} {i : Nat} (h1 : 1 ≤ p.size) (hi : (i : Int) < bt p 0) {l : List ByteArray} {o : Nat} (h : sg p i = some (l, o)) (hc : ¬ (o + 2 ≤ p.size ∧ o + 2 + (num p o 2).toNat ≤ p.size) ∨ 20000 < (num p o 2).toNat) : lsC p = none := by
 unfold lsC
 rw [num_1]
 split
 ·by_cases c : o + 2 ≤ p.size ∧ o + 2 + (num p o 2).toNat ≤ p.size
  ·have hN := hc.resolve_left (fun q => q c)
   have hy := T0 h c
   have key : ∀ (j : Nat) (l2 : List ByteArray) (o2 : Nat), i + 1 ≤ j → sg p j = some (l2, o2) → ¬ short l2 := by
    intro j
    induction j with
    | zero => intro l2 o2 hj; omega
    | succ j ih =>
     intro l2 o2 hj hs hsh
     by_cases e : i + 1 = j + 1
     ·rw [← e, hy] at hs
      cases hs
      have := hsh _ (List.mem_append_right _ (List.mem_singleton.2 rfl))
      rw [C5 c.2] at this
      omega
     ·match e2 : sg p j with
      | none => rw [sg_mono e2] at hs; cases hs
      | some (l3, o3) =>
       by_cases c3 : o3 + 2 ≤ p.size ∧ o3 + 2 + (num p o3 2).toNat ≤ p.size
       ·rw [T0 e2 c3] at hs
        cases hs
        exact ih l3 o3 (by omega) e2 (fun s q => hsh s (List.mem_append_left _ q))
       ·rw [sg_no e2 c3] at hs; cases hs
   match e : sg p (bt p 0).toNat with
   | none => rfl
   | some (l2, o2) =>
    show (if o2 = p.size ∧ short l2 then some l2 else none) = none
    rw [if_neg (fun q => key _ l2 o2 (by omega) e q.2)]
  ·rw [sg_none (sg_no h c) (j := (bt p 0).toNat) (by omega)]
 ·rfl
open Go.V
set_option linter.unusedVariables false
set_option linter.unusedSimpArgs false
set_option maxRecDepth 20000
set_option maxHeartbeats 4000000
theorem ne_pos {p : ByteArray} (h : ¬ p = ⟨#[]⟩) : (0 : Int) < p.size := by
 have : p.size ≠ 0 := fun z => h (size0 z)
 omega
theorem r154 (p : ByteArray) (hp : p.size ≤ 1000000) : Pure En 154 [.one (.str p)] [.one (.sl false ((lsO p).map tT)), .one (.bool (lsC p).isSome)] := by
 refine Pure.of_ev (st := [7]) Tryz.func154 rfl kb ?_
 refine D3 (es := []) j4 kz kb rfl rfl ?_
 refine br ?_ ?_ <;> intro h2_1
 ·have hno : lsC p = none := by
   unfold lsC
   rw [if_neg]
   rintro ⟨e1, e2⟩
   rw [num_1] at e2
   first
   | (rw [h2_1] at e1; exact absurd e1 (by decide))
   | omega
  rw [show lsO p = [] by unfold lsO; rw [hno], hno]
  refine C7 [0] (A0 rfl (A0 rfl A1)) ?_
  exact (SnapL.cons _ _ _ _ (.one _ _ (.weak _ _ (A3 (b := ⟨[], 1, 9⟩) [] (List.mem_singleton.2 rfl) (by exact Q0) rfl rfl))) (SnapL.cons _ _ _ _ (.one _ _ (.bool _)) SnapL.nil))
 ·refine lit 0 rfl (sd (by first | omega | exact Int.ofNat_lt.1 (by exact P1)) ?_)
  refine br ?_ ?_ <;> intro h2_5
  ·have hno : lsC p = none := by
    unfold lsC
    rw [if_neg]
    rintro ⟨e1, e2⟩
    rw [num_1] at e2
    first
    | (rw [h2_1] at e1; exact absurd e1 (by decide))
    | omega
   rw [show lsO p = [] by unfold lsO; rw [hno], hno]
   refine C7 [0] (A0 rfl (A0 rfl A1)) ?_
   exact (SnapL.cons _ _ _ _ (.one _ _ (.weak _ _ (A3 (b := ⟨[], 1, 9⟩) [] (List.mem_singleton.2 rfl) (by exact Q0) rfl rfl))) (SnapL.cons _ _ _ _ (.one _ _ (.bool _)) SnapL.nil))
  ·have hp1 : 1 ≤ p.size := by
    rcases Nat.eq_zero_or_pos p.size with z | z
    ·exact absurd (size0 z) h2_1
    ·exact z
   have hbz := U4 p 0
   have hb100 : bt p 0 ≤ 100 := by omega
   refine lit 0 rfl (sd (by first | omega | exact Int.ofNat_lt.1 (by exact P1)) ?_)
   refine cvF ⟨by (first | exact N6 _ _ | exact N7 _ _ | omega | exact P1), by (first | exact N6 _ _ | exact N7 _ _ | omega | exact P1)⟩ ?_
   refine U7 fun g0 hg0 => ?_
   refine A9 (fun (a : LR) => [.str p, .unk, .unk, .unk, .view a.b 0 a.i, .int .i64 a.o, .int .i64 (bt p 0 - a.i)]) (fun (a : LR) => a.g) (fun (a : LR) => a.m) (fun (a : LR) => LRI p a) (fun (a : LR) => (bt p 0).toNat - a.i) ⟨0, [], 1, 0, 1, g0⟩ ?_ ?_ ?_ ?_ ?_
   ·refine ⟨by dsimp only; omega, rfl, fun s hs => (by cases hs), ?_, by dsimp only; omega⟩
    dsimp only; rw [hg0]; exact Q0
   ·(repeat first | exact LE.nil _ | refine LE.unk _ _ ?_ | refine LE.eq _ _ _ rfl ?_ | refine LE.eq _ _ _ (congrArg (V.int IntKind.i64) (show bt p 0 = bt p 0 - ((0 : Nat) : Int) by omega)) ?_)
   ·exact LessH.refl _
   ·exact Nat.le_refl _
   intro ⟨i, l, o, b, m, g⟩ hI ih
   have q0 := hI.il
   have hg := hI.out
   have q4 := hI.bm
   dsimp only at q0 hg q4 ⊢
   have hll := (sg_len hI.sg).1
   have hoo := (sg_len hI.sg).2.1 hp1
   dsimp only at hll hoo
   have hsg : sg p i = some (l, o) := hI.sg
   have hsh : short l := hI.sh
   refine A7 (st := [7]) ?_
   refine br ?_ ?_ <;> intro h6_1
   ·refine D6 ⟨by exact P1, by exact P1⟩ ?_
    refine br ?_ ?_ <;> intro h8_4
    ·refine D3 (es := []) j4 kz kb rfl rfl ?_
     have hno : lsC p = none := lsC_cut hp1 (by omega) hsg (.inl (by omega))
     rw [show lsO p = [] by unfold lsO; rw [hno], hno]
     refine C7 [m] (A0 rfl (A0 rfl A1)) ?_
     exact (SnapL.cons _ _ _ _ (.one _ _ (.weak _ _ (A3 (b := ⟨[], 1, 9⟩) [] (List.mem_singleton.2 rfl) (by exact Q0) rfl rfl))) (SnapL.cons _ _ _ _ (.one _ _ (.bool _)) SnapL.nil))
    ·refine D6 ⟨by exact P1, by exact P1⟩ ?_
     refine sd ⟨by exact P1, by exact P1, by exact P1⟩ ?_
     refine C8 (r220 (p.extract o (o + 2)) (by rw [C5 (by omega)]; omega)) rfl rfl rfl ?_
     have hN : num (p.extract o (o + 2)) 0 (p.extract o (o + 2)).size = (((num p o 2).toNat : Nat) : Int) := by
      rw [C5 (by omega), Nat.add_sub_cancel_left, F0 (by omega) (by omega)]
      have := K3 p o 2
      show num p o 2 = _; omega
     rw [hN]
     have hNb : (num p o 2).toNat ≤ 65535 := by have := S0 p o; omega
     refine br ?_ ?_ <;> intro h11_1
     ·refine D3 (es := []) j4 kz kb rfl rfl ?_
      have hno : lsC p = none := lsC_cut hp1 (by omega) hsg (by first | exact .inr (by omega) | exact .inl (by omega))
      rw [show lsO p = [] by unfold lsO; rw [hno], hno]
      refine C7 [m] (A0 rfl (A0 rfl A1)) ?_
      exact (SnapL.cons _ _ _ _ (.one _ _ (.weak _ _ (A3 (b := ⟨[], 1, 9⟩) [] (List.mem_singleton.2 rfl) (by exact Q0) rfl rfl))) (SnapL.cons _ _ _ _ (.one _ _ (.bool _)) SnapL.nil))
     ·refine D6 ⟨by exact P1, by exact P1⟩ ?_
      refine D6 ⟨by exact P1, by exact P1⟩ ?_
      refine br ?_ ?_ <;> intro h11_9
      ·refine D3 (es := []) j4 kz kb rfl rfl ?_
       have hno : lsC p = none := lsC_cut hp1 (by omega) hsg (by first | exact .inr (by omega) | exact .inl (by omega))
       rw [show lsO p = [] by unfold lsO; rw [hno], hno]
       refine C7 [m] (A0 rfl (A0 rfl A1)) ?_
       exact (SnapL.cons _ _ _ _ (.one _ _ (.weak _ _ (A3 (b := ⟨[], 1, 9⟩) [] (List.mem_singleton.2 rfl) (by exact Q0) rfl rfl))) (SnapL.cons _ _ _ _ (.one _ _ (.bool _)) SnapL.nil))
      ·refine D6 ⟨by exact P1, by exact P1⟩ ?_
       refine D6 ⟨by exact P1, by exact P1⟩ ?_
       refine D6 ⟨by exact P1, by exact P1⟩ ?_
       refine sd ⟨by exact P1, by exact P1, by exact P1⟩ ?_
       refine D3 (es := [[.str _]]) j4 kz kb rfl rfl ?_
       (apply eap (s' := 16) (es := [[.str _]]) rfl rfl; exact Q0; exact j2; exact Q29; exact j2; exact kz; exact H5; exact Q6; exact Q4; exact Q4)
       refine D6 ⟨by exact P1, by exact P1⟩ ?_
       refine D6 ⟨by exact P1, by exact P1⟩ ?_
       refine E1 fun G hG => ?_
       refine D6 ⟨by exact P1, by exact P1⟩ ?_
       have hst1 : (o : Int) + (2 + (((num p o 2).toNat : Nat) : Int)) = ((o + 2 + (num p o 2).toNat : Nat) : Int) := by omega
       have hst2 : bt p 0 - (i : Int) - 1 = bt p 0 - ((i + 1 : Nat) : Int) := by omega
       refine C6 (ih ⟨i + 1, l ++ [p.extract (o + 2) (o + 2 + (num p o 2).toNat)], o + 2 + (num p o 2).toNat, m + 1, m + 1 + 1, G⟩ ⟨by dsimp only; omega, T0 hsg (by omega), fun s hs => ?_, ?_, by dsimp only; omega⟩ (by dsimp only; omega)) (by (repeat first | exact LE.nil _ | refine LE.unk _ _ ?_ | refine LE.eq _ _ _ rfl ?_ | refine LE.eq _ _ _ (congrArg (V.int IntKind.i64) hst1) ?_ | refine LE.eq _ _ _ (congrArg (V.int IntKind.i64) hst2) ?_)) (LessH.refl _) (Nat.le_refl _)
       ·rcases List.mem_append.1 hs with h | h
        ·exact hsh s h
        ·rw [List.mem_singleton.1 h, C5 (by omega)]; omega
       ·dsimp only; rw [hG]; show _ = some (Blk.mk ((l ++ [_]).map tV) 1 9); rw [List.map_append]; exact Q0
   ·refine br ?_ ?_ <;> intro h15_3
    ·refine D3 (es := []) j4 kz kb rfl rfl ?_
     have hi : i = (bt p 0).toNat := by omega
     have hno : lsC p = none := by rw [lsC_at hp1 (by omega) (hi ▸ hsg), if_neg]; rintro ⟨q, _⟩; omega
     rw [show lsO p = [] by unfold lsO; rw [hno], hno]
     refine C7 [m] (A0 rfl (A0 rfl A1)) ?_
     exact (SnapL.cons _ _ _ _ (.one _ _ (.weak _ _ (A3 (b := ⟨[], 1, 9⟩) [] (List.mem_singleton.2 rfl) (by exact Q0) rfl rfl))) (SnapL.cons _ _ _ _ (.one _ _ (.bool _)) SnapL.nil))
    ·have hi : i = (bt p 0).toNat := by omega
     have hyes : lsC p = some l := by rw [lsC_at hp1 (by omega) (hi ▸ hsg), if_pos ⟨by omega, hsh⟩]
     rw [show lsO p = l by unfold lsO; rw [hyes], hyes]
     refine C7 [b] (A0 rfl (A0 rfl A1)) (SnapL.cons _ _ _ _ (.one _ _ (.weak _ _ (A3 (b := ⟨l.map tV, 1, 9⟩) (l.map tT) (List.mem_singleton.2 rfl) (by exact Q0) (rowsT _).symm (by rw [List.length_map]; exact hll.symm)))) (SnapL.cons _ _ _ _ (.one _ _ (.bool _)) SnapL.nil))
open Go.V
set_option linter.unusedVariables false
set_option linter.unusedSimpArgs false
set_option maxRecDepth 20000
set_option maxHeartbeats 4000000
def crL (r : List ByteArray) : Nat → List Msg
 | 0 => []
 | i + 1 => crL r i ++ [mR (r.getD i ⟨#[]⟩)]
theorem crL_len (r : List ByteArray) : ∀ i, (crL r i).length = i
 | 0 => rfl
 | i + 1 => by show (crL r i ++ [_]).length = _; rw [List.length_append, crL_len r i]; rfl
theorem crL_tk {r : List ByteArray} : ∀ {i : Nat}, i ≤ r.length → (∀ j, j < i → pOf (r.getD j ⟨#[]⟩)) → crL r i = (r.take i).map msC
 | 0, _, _ => rfl
 | i + 1, h, hp => by
  show crL r i ++ [mR (r.getD i ⟨#[]⟩)] = _
  rw [crL_tk (by omega) (fun j hj => hp j (by omega)), show mR (r.getD i ⟨#[]⟩) = msC _ from if_pos (hp i (by omega)).1.1, List.take_succ_eq_append_getElem (by omega), List.map_append, show r.getD i ⟨#[]⟩ = r[i] by simp [show i < r.length by omega]]; rfl
theorem lsC_short {p : ByteArray} {l : List ByteArray} (h : lsC p = some l) : short l := by
 unfold lsC at h
 split at h
 ·split at h
  ·split at h
   ·next c => cases h; exact c.2
   ·cases h
  ·cases h
 ·cases h
structure CRI (s : ByteArray) (r : List ByteArray) (a : CS) : Prop where
 il : a.i ≤ r.length
 g0 : a.g 0 = CB ⟨#[]⟩ .nsl
 g1 : a.g 2 = CB s (.view a.b 0 a.i)
 out : a.g a.b = some ⟨(crL r a.i).map Msg.V, 7, 37⟩
 bm : 1 ≤ a.b ∧ a.b ≠ 2 ∧ a.b < a.m ∧ 3 ≤ a.m
 ok : ∀ j, j < a.i → pOf (r.getD j ⟨#[]⟩)
open Go.V
set_option linter.unusedVariables false
set_option linter.unusedSimpArgs false
set_option maxRecDepth 20000
set_option maxHeartbeats 4000000
theorem r155 (p : ByteArray) (hp : p.size ≤ 1000000) : Pure En 155 [.one (.str p)] [.agg ((ctX p).T false), .one (.bool (ctC p).isSome)] := by
 refine Pure.of_ev (st := [4, 7]) Tryz.func155 rfl kb ?_
 refine C8 (r154 p hp) rfl rfl rfl ?_
 refine brB ?_ ?_ <;> intro h1_4
 ·refine B6 (s50 _ _ _) rfl j2 ?_ ?_ <;> intro h2_5
  ·refine E1 fun G hG => ?_
   have hG0 : G 0 = CB ⟨#[]⟩ .nsl := by rw [hG]; exact Q0
   unfold CB at hG0
   have hls := I4 h1_4
   have hl8 : 1 ≤ (lsO p).length ∧ (lsO p).length ≤ 8 := by rw [List.length_map] at h2_5; omega
   have hsh := lsC_short hls
   obtain ⟨s, r, hbr⟩ : ∃ s r, lsO p = s :: r := by
    match e : lsO p with
    | [] => rw [e] at hl8; have := hl8.1; simp at this
    | s :: r => exact ⟨s, r, rfl⟩
   rw [hbr] at hls hl8 hsh ⊢
   have hr7 : r.length ≤ 7 := by rw [List.length_cons] at hl8; omega
   have hat := ct_at hls hr7
   have hshort : ∀ i, i < r.length → (r.getD i ⟨#[]⟩).size ≤ 20000 := fun i hi => hsh _ (List.mem_cons_of_mem _ (I3 hi))
   have hll : (List.map tT (s :: r)).length = r.length + 1 := by simp
   (refine C2 (D7 (by first | rfl | assumption | (first | rfl | exact B0 tT ⟨#[]⟩ (L := s :: r) (k := i + 1) (by rw [List.length_cons]; omega))) rfl ?_))
   refine D3 (es := []) j4 kz kb rfl rfl ?_
   (apply est (u := .agg [.str _, _]) j3; exact Q0; exact Q8; exact j4; exact kb; rfl)
   refine U7 fun g0 hg0 => ?_
   refine A9 (fun (a : CS) => [.unk, .unk, .ptr 0 0 0, .unk, .sl true false (List.map tT (s :: r)), .unk, .ptr 2 0 0, .int .i64 ((a.i + 1 : Nat) : Int)]) (fun (a : CS) => a.g) (fun (a : CS) => a.m) (fun (a : CS) => CRI s r a) (fun (a : CS) => r.length - a.i) ⟨0, .nsl, 1, 3, g0⟩ ?_ ?_ ?_ ?_ ?_
   ·refine ⟨Nat.zero_le _, ?_, ?_, ?_, by dsimp only; omega, S9⟩
    ·dsimp only; rw [hg0]; exact Q0
    ·dsimp only; rw [hg0]; exact Q0
    ·dsimp only; rw [hg0]; exact Q0
   ·(repeat first | exact LE.nil _ | refine LE.unk _ _ ?_ | refine LE.eq _ _ _ rfl ?_)
   ·exact LessH.refl _
   ·exact Nat.le_refl _
   intro ⟨i, o, b, m, g⟩ hI ih
   have q0 := hI.il
   have hg0 := hI.g0
   have hg1 := hI.g1
   have hg2 := hI.out
   have q4 := hI.bm
   have hok := hI.ok
   unfold CB at hg0 hg1
   dsimp only at q0 hg0 hg1 hg2 q4 hok ⊢
   have hrl := crL_len r i
   refine A7 (st := [4, 7]) ?_
   refine br ?_ ?_ <;> intro h6_3
   ·(refine C2 (D7 (by first | rfl | assumption | (first | rfl | exact B0 tT ⟨#[]⟩ (L := s :: r) (k := i + 1) (by rw [List.length_cons]; omega))) rfl ?_))
    refine C8 (r227 (r.getD i ⟨#[]⟩) (by have := hshort i (by omega); omega)) rfl rfl rfl ?_
    refine brB ?_ ?_ <;> intro h8_7
    ·(apply est (u := .agg [.int _ _, .int _ _, .int _ _, .int _ _, .str _, .str _, .str _]) j3; exact Q0; exact Q8; exact j4; exact kb; rfl)
     refine A4 ?_ (by exact Q0) (by exact Q8)
     refine br ?_ ?_ <;> intro h9_5
     ·(apply est (u := .agg [.str _, _]) j3; exact Q0; exact Q8; exact j4; exact kb; rfl)
      have hno : ctC p = none := by
       rw [hat, O6 (I3 (i := i) (by omega)) (fun q => ?_)]
       ·rfl
       ·first
        | exact absurd q.1 (of_decide_eq_false h8_7)
        | (rw [show mR (r.getD i ⟨#[]⟩) = msC _ from if_pos q.1.1] at h9_5; exact h9_5 q.2)
      rw [show ctX p = Ct0 by unfold ctX; rw [hno], hno]
      refine C7 [] (A0 (A2 rfl (by exact Q0) j2 kb rfl) (A0 rfl A1)) ?_
      exact (SnapL.cons _ _ _ _ (SnapC.agg (.cons _ _ _ _ (.str _) (.cons _ _ _ _ .nslW .nil))) (SnapL.cons _ _ _ _ (.one _ _ (.bool _)) SnapL.nil))
     ·refine A4 ?_ (by exact Q0) (by exact Q8)
      (apply D2 (vs := [.int _ _, .int _ _, .int _ _, .int _ _, .str _, .str _, .str _]) j2; exact Q0; exact Q8; rfl; exact kb; rfl)
      refine D3 (es := [[.int _ _, .int _ _, .int _ _, .int _ _, .str _, .str _, .str _]]) j4 kz kb rfl rfl ?_
      (apply eap (s' := 80) (es := [[.int _ _, .int _ _, .int _ _, .int _ _, .str _, .str _, .str _]]) rfl rfl; exact Q0; exact j2; exact Q29; exact j2; exact kz; exact H5; exact Q6; exact Q4; exact Q4)
      (apply est (u := .view _ _ _) j3; exact Q0; exact Q8; exact j4; exact kb; rfl)
      refine E1 fun G hG => ?_
      refine B7 ?_
      have hy : mOK (r.getD i ⟨#[]⟩) := of_decide_eq_true h8_7
      have hpi : pOf (r.getD i ⟨#[]⟩) := ⟨hy, by rw [show mR (r.getD i ⟨#[]⟩) = msC _ from if_pos hy.1] at h9_5; exact Classical.not_not.1 h9_5⟩
      refine C6 (ih ⟨i + 1, .nsl, m + 1 + 1, m + 1 + 1 + 1, G⟩ ⟨by dsimp only; omega, ?_, ?_, ?_, by dsimp only; omega, fun j hj => ?_⟩ (by dsimp only; omega)) (by (repeat first | exact LE.nil _ | refine LE.unk _ _ ?_ | refine LE.eq _ _ _ rfl ?_)) (LessH.refl _) (Nat.le_refl _)
      ·dsimp only; rw [hG]; exact Q0
      ·dsimp only; rw [hG]; exact Q0
      ·dsimp only; rw [hG]; show _ = some (Blk.mk ((crL r i ++ [_]).map Msg.V) 7 37); rw [List.map_append]; exact Q0
      ·rcases Nat.lt_succ_iff_lt_or_eq.1 hj with q | q
       ·exact hok j q
       ·rw [q]; exact hpi
    ·(apply est (u := .agg [.int _ _, .int _ _, .int _ _, .int _ _, .str _, .str _, .str _]) j3; exact Q0; exact Q8; exact j4; exact kb; rfl)
     (apply est (u := .agg [.str _, _]) j3; exact Q0; exact Q8; exact j4; exact kb; rfl)
     have hno : ctC p = none := by
      rw [hat, O6 (I3 (i := i) (by omega)) (fun q => ?_)]
      ·rfl
      ·first
       | exact absurd q.1 (of_decide_eq_false h8_7)
       | (rw [show mR (r.getD i ⟨#[]⟩) = msC _ from if_pos q.1.1] at h9_5; exact h9_5 q.2)
     rw [show ctX p = Ct0 by unfold ctX; rw [hno], hno]
     refine C7 [] (A0 (A2 rfl (by exact Q0) j2 kb rfl) (A0 rfl A1)) ?_
     exact (SnapL.cons _ _ _ _ (SnapC.agg (.cons _ _ _ _ (.str _) (.cons _ _ _ _ .nslW .nil))) (SnapL.cons _ _ _ _ (.one _ _ (.bool _)) SnapL.nil))
   ·(apply D2 (vs := [.str _, _]) j2; exact Q0; exact Q8; rfl; exact kb; rfl)
    (apply est (u := .agg [.str _, _]) j3; exact Q0; exact Q8; exact j4; exact kb; rfl)
    have hyes : ctC p = some ⟨s, crL r i⟩ := by
     obtain rfl : i = r.length := by omega
     rw [hat, mss_yes (pOf_all hok), crL_tk (Nat.le_refl _) hok, List.take_length]; rfl
    rw [show ctX p = ⟨s, crL r i⟩ by unfold ctX; rw [hyes], hyes]
    refine C7 [b] (A0 (A2 rfl (by exact Q0) j2 kb rfl) (A0 rfl A1)) ?_
    exact (SnapL.cons _ _ _ _ (SnapC.agg (.cons _ _ _ _ (.str _) (.cons _ _ _ _ (.weak _ _ (A3 (b := ⟨(crL r i).map Msg.V, 7, 37⟩) ((crL r i).map Msg.T) (List.mem_singleton.2 rfl) (by exact Q0) (rowsM _).symm (by rw [List.length_map, hrl]))) .nil))) (SnapL.cons _ _ _ _ (.one _ _ (.bool _)) SnapL.nil))
  ·(apply est (u := .agg [.str _, _]) j3; exact Q0; exact Q8; exact j4; exact kb; rfl)
   have hno : ctC p = none := by
    first
    | exact ct_len (I4 h1_4) (by rw [List.length_map] at h2_5; omega)
    | exact W6 (by match e : lsC p with | none => rfl | some l => rw [e] at h1_4; cases h1_4)
   rw [show ctX p = Ct0 by unfold ctX; rw [hno], hno]
   refine C7 [] (A0 (A2 rfl (by exact Q0) j2 kb rfl) (A0 rfl A1)) ?_
   exact (SnapL.cons _ _ _ _ (SnapC.agg (.cons _ _ _ _ (.str _) (.cons _ _ _ _ .nslW .nil))) (SnapL.cons _ _ _ _ (.one _ _ (.bool _)) SnapL.nil))
 ·(apply est (u := .agg [.str _, _]) j3; exact Q0; exact Q8; exact j4; exact kb; rfl)
  have hno : ctC p = none := by
   first
   | exact ct_len (I4 h1_4) (by rw [List.length_map] at h2_5; omega)
   | exact W6 (by match e : lsC p with | none => rfl | some l => rw [e] at h1_4; cases h1_4)
  rw [show ctX p = Ct0 by unfold ctX; rw [hno], hno]
  refine C7 [] (A0 (A2 rfl (by exact Q0) j2 kb rfl) (A0 rfl A1)) ?_
  exact (SnapL.cons _ _ _ _ (SnapC.agg (.cons _ _ _ _ (.str _) (.cons _ _ _ _ .nslW .nil))) (SnapL.cons _ _ _ _ (.one _ _ (.bool _)) SnapL.nil))
open Go.V
set_option linter.unusedVariables false
set_option linter.unusedSimpArgs false
set_option maxRecDepth 20000
set_option maxHeartbeats 4000000
theorem getVs {α : Type} (f : α → List V) (d : α) {L : List α} {i a : Nat} {v : List V} (hi : 0 < i) (h : i ≤ L.length) (ha : a = i) : ((L.map f).set a v)[0 + ((i : Int) - 1).toNat]? = some (f (L.getD (i - 1) d)) := by
 rw [List.getElem?_set_ne (by omega)]; exact getVm f d hi h
structure SS where
 i : Nat
 M : List Int
 g : Heap
structure SI (L : List Int) (u : Nat) (a : SS) : Prop where
 il : a.i ≤ u
 len : a.M.length = L.length
 g1 : a.g 1 = some ⟨a.M.map iV, 1, 3⟩
theorem r225 (L : List Int) (nn : Bool) (hne : L ≠ []) (hL : L.length ≤ 1048576) : ∃ M : List Int, M.length = L.length ∧ Pure En 225 [.one (.sl nn (L.map iT))] [.one (.sl true (M.map iT))] := by
 have hl : (L.map iT).length = L.length := List.length_map ..
 have hp := List.length_pos_iff.2 hne
 refine Pure.of_evX (st := [7]) (R := fun M : List Int => [.one (.sl true (M.map iT))]) (p := fun M : List Int => M.length = L.length) Tryz.func225 rfl kb ?_
 refine D3 (es := []) j4 kz kb rfl rfl ?_
 (apply eap (s' := 8)  rfl rfl; exact Q0; exact j2; exact Q29; exact j2; exact kz; exact H5; (first | rfl | assumption | (focus (intro c hc; obtain ⟨x, hx, rfl⟩ := List.mem_map.1 hc; obtain ⟨y, hy, rfl⟩ := List.mem_map.1 hx; rfl)) | (focus (simp; done)) | (focus (intro _ hc; rw [List.mem_singleton] at hc; subst hc; rfl)) | (intro _ _; simp_all)); (first | omega | (focus (simp only [List.length_cons, List.length_nil]; omega)) | (focus (rw [List.length_map, List.length_map]; omega))); (first | omega | (focus (simp only [List.length_cons, List.length_nil]; omega)) | (focus (rw [List.length_map, List.length_map]; omega))))
 refine U7 fun g0 hg0 => ?_
 refine A9 (fun (a : SS) => [.unk, .unk, .unk, .view 1 0 L.length, .int .i64 a.i]) (fun (a : SS) => a.g) (fun (a : SS) => 2) (fun (a : SS) => 1 ≤ a.i ∧ SI L L.length a) (fun (a : SS) => L.length - a.i) ⟨1, L, g0⟩ ?_ ?_ ?_ ?_ ?_
 ·refine ⟨Nat.le_refl _, by dsimp only; omega, rfl, ?_⟩
  dsimp only; rw [hg0]; (simp (disch := omega) only [↓app0, ↓appC, ↓updS, ↓updN]); exact congrArg (fun z => some (Blk.mk z 1 3)) (by rw [List.map_map]; rfl)
 ·(repeat first | exact LE.nil _ | refine LE.unk _ _ ?_ | refine LE.eq _ _ _ rfl ?_ | refine LE.eq _ _ _ (congrArg (V.view 1 0) (by rw [List.length_map, List.length_map, Nat.zero_add])) ?_)
 ·exact LessH.refl _
 ·exact Nat.le_refl _
 intro ⟨i, M, g⟩ hI ih
 obtain ⟨h1i, hI⟩ := hI
 have q0 := hI.il
 have ql := hI.len
 have qg := hI.g1
 have ihO := ih
 dsimp only at h1i q0 ql qg ⊢
 refine A7 (st := [7]) ?_
 refine br ?_ ?_ <;> intro h3_3
 ·refine A9 (fun (a : SS) => [.unk, .unk, .unk, .view 1 0 L.length, .int .i64 i, .int .i64 a.i]) (fun (a : SS) => a.g) (fun (a : SS) => 2) (fun (a : SS) => SI L i a) (fun (a : SS) => a.i) ⟨i, M, g⟩ ?_ ?_ ?_ ?_ ?_
  ·exact ⟨Nat.le_refl _, ql, qg⟩
  ·(repeat first | exact LE.nil _ | refine LE.unk _ _ ?_ | refine LE.eq _ _ _ rfl ?_)
  ·exact LessH.refl _
  ·exact Nat.le_refl _
  intro ⟨j, M2, g2⟩ hI ih
  have r0 := hI.il
  have rl := hI.len
  have rg := hI.g1
  dsimp only at r0 rl rg ⊢
  refine A7 (st := [7]) ?_
  refine br ?_ ?_ <;> intro h6_1
  ·refine B7 ?_
   (refine mem (by exact Q0) ⟨rfl, C2 ?_⟩)
   refine A4 ?_ (by exact Q0) (by exact Q35)
   (refine mem (by exact Q0) ⟨rfl, C2 ?_⟩)
   refine A4 ?_ (by exact Q0) (by exact Q35)
   refine br ?_ ?_ <;> intro h6_12
   ·(refine mem (by exact Q0) ⟨rfl, C2 ?_⟩)
    refine A4 ?_ (by exact Q0) (by exact Q35)
    refine B7 ?_
    (refine mem (by exact Q0) ⟨rfl, C2 ?_⟩)
    refine A4 ?_ (by exact Q0) (by exact Q35)
    (refine mem (by exact Q0) ⟨rfl, C2 ?_⟩)
    (apply est (u := .int _ _) j3; exact Q0; exact Q35; exact j4; exact kb; rfl)
    refine B7 ?_
    (refine mem (by exact Q0) ⟨rfl, C2 ?_⟩)
    (apply est (u := .int _ _) j3; exact Q0; exact Q35; exact j4; exact kb; rfl)
    refine E1 fun G hG => ?_
    refine B7 ?_
    have hst : (j : Int) - 1 = ((j - 1 : Nat) : Int) := by omega
    have hjt : ((j : Int) - 1).toNat = j - 1 := by omega
    refine C6 (ih ⟨j - 1, (M2.set j (M2.getD (j - 1) 0)).set (j - 1) (M2.getD j 0), G⟩ ⟨by dsimp only; omega, by dsimp only; rw [List.length_set, List.length_set]; exact rl, ?_⟩ (by dsimp only; omega)) (by (repeat first | exact LE.nil _ | refine LE.unk _ _ ?_ | refine LE.eq _ _ _ rfl ?_ | refine LE.eq _ _ _ (congrArg (V.int IntKind.i64) hst) ?_)) (LessH.refl _) (Nat.le_refl _)
    dsimp only
    rw [List.map_set, List.map_set, hG]
    (simp (disch := omega) only [↓app0, ↓appC, ↓updS, ↓updN, Nat.zero_add, Int.toNat_natCast, hjt])
    rfl
   ·refine B7 ?_
    exact C6 (ihO ⟨i + 1, M2, g2⟩ ⟨by dsimp only; omega, by dsimp only; omega, hI.len, hI.g1⟩ (by dsimp only; omega)) (by (repeat first | exact LE.nil _ | refine LE.unk _ _ ?_ | refine LE.eq _ _ _ rfl ?_)) (LessH.refl _) (Nat.le_refl _)
  ·refine B7 ?_
   exact C6 (ihO ⟨i + 1, M2, g2⟩ ⟨by dsimp only; omega, by dsimp only; omega, hI.len, hI.g1⟩ (by dsimp only; omega)) (by (repeat first | exact LE.nil _ | refine LE.unk _ _ ?_ | refine LE.eq _ _ _ rfl ?_)) (LessH.refl _) (Nat.le_refl _)
 ·refine ⟨M, hI.len, C7 [1] (A0 rfl A1) (SnapL.cons _ _ _ _ (.one _ _ (A3 (b := ⟨M.map iV, 1, 3⟩) (M.map iT) (List.mem_singleton.2 rfl) (by exact Q0) (rowsI _).symm (by rw [List.length_map]; exact hI.len.symm))) SnapL.nil)⟩
open Go.V
set_option linter.unusedVariables false
set_option linter.unusedSimpArgs false
set_option maxRecDepth 20000
set_option maxHeartbeats 4000000
structure TR2 where
 i : Nat
 b : Nat
 m : Nat
 g : Heap
structure TRI (n : Int) (rs : List Rg) (a : TR2) : Prop where
 il : a.i ≤ rs.length
 out : a.g a.b = some ⟨(vlL rs a.i).map iV, 1, 3⟩
 bm : a.b < a.m
 ok : ∀ j, j < a.i → tmR n rs j
theorem r152_1 (rs : List Rg) (nn : Bool) : ∃ t : Int, True ∧ Pure En 152 [.one (.int .i64 1), .one (.sl nn (rs.map Rg.T))] [.one (.int .i64 t), .one (.bool (decide (timeOK rdM 1 rs)))] := by
 have hl : (rs.map Rg.T).length = rs.length := List.length_map ..
 have hq : quo 1 = 1 := by decide
 refine Pure.of_evX (st := [7]) (R := fun t : Int => [.one (.int .i64 t), .one (.bool (decide (timeOK rdM 1 rs)))]) (p := fun _ => True) Tryz.func152 rfl kb ?_
 refine B7 ?_
 refine C2 ?_
 rw [show IntKind.i64.wrap (((1 : Int) - 1).tdiv 3) = 0 from by decide]
 refine B7 ?_
 refine B7 ?_
 refine br ?_ ?_ <;> intro h2_5
 ·have hno : ¬ timeOK rdM 1 rs := fun e => by have := e.1; rw [hq] at this; omega
  refine ⟨0, trivial, ?_⟩
  rw [decide_eq_false hno]
  exact E4 rfl rfl
 ·refine D3 (es := []) j4 kz kb rfl rfl ?_
  refine U7 fun g0 hg0 => ?_
  refine A9 (fun (a : TR2) => [.int .i64 1, .sl false nn (rs.map Rg.T), .unk, .unk, .unk, .unk, .int .i64 0, .view a.b 0 a.i, .int .i64 a.i]) (fun (a : TR2) => a.g) (fun (a : TR2) => a.m) (fun (a : TR2) => TRI 1 rs a) (fun (a : TR2) => rs.length - a.i) ⟨0, 0, 1, g0⟩ ?_ ?_ ?_ ?_ ?_
  ·refine ⟨Nat.zero_le _, ?_, by dsimp only; omega, S9⟩
   dsimp only; rw [hg0]; exact Q0
  ·(repeat first | exact LE.nil _ | refine LE.unk _ _ ?_ | refine LE.eq _ _ _ rfl ?_)
  ·exact LessH.refl _
  ·exact Nat.le_refl _
  intro ⟨i, b, m, g⟩ hI ih
  have q0 := hI.il
  have qg := hI.out
  have qm := hI.bm
  have hok := hI.ok
  dsimp only at q0 qg qm hok ⊢
  have hrl := P3 rs i
  refine A7 (st := [7]) ?_
  refine br ?_ ?_ <;> intro h6_3
  ·(refine C2 (D7 (by first | rfl | assumption | exact Q25) rfl ?_))
   (apply est (u := .agg [.int _ _, .int _ _, .str _]) j3; exact Q0; exact Q8; exact j4; exact kb; rfl)
   (apply D2 (vs := [.int _ _, .int _ _, .str _]) j2; exact Q0; exact Q8; rfl; exact kb; rfl)
   refine B6 (r223 (rs.getD i Rg0)) rfl j2 ?_ ?_ <;> intro h9_1
   ·refine A4 ?_ (by exact Q0) (by exact Q8)
    refine br ?_ ?_ <;> intro h9_7
    ·have hno : ¬ timeOK rdM 1 rs := fun e => by
      obtain ⟨⟨e1, e2, e3⟩, e4⟩ := e.2 i (by omega)
      first
      | exact h9_1 e1
      | omega
      | (have := e4 (by omega); omega)
      | exact h9_32 e3.symm
     refine ⟨0, trivial, ?_⟩
     rw [decide_eq_false hno]
     exact E4 rfl rfl
    ·refine br (fun h => absurd h ((by omega))) ?_
     intro h9_11
     refine A4 ?_ (by exact Q0) (by exact Q8)
     refine A4 ?_ (by exact Q0) (by exact Q8)
     refine C8 (r224 _ _) rfl rfl rfl ?_
     refine A4 ?_ (by exact Q0) (by exact Q8)
     refine br ?_ ?_ <;> intro h9_32
     ·have hno : ¬ timeOK rdM 1 rs := fun e => by
       obtain ⟨⟨e1, e2, e3⟩, e4⟩ := e.2 i (by omega)
       first
       | exact h9_1 e1
       | omega
       | (have := e4 (by omega); omega)
       | exact h9_32 e3.symm
      refine ⟨0, trivial, ?_⟩
      rw [decide_eq_false hno]
      exact E4 rfl rfl
     ·refine A4 ?_ (by exact Q0) (by exact Q8)
      refine D3 (es := [[.int _ _]]) j4 kz kb rfl rfl ?_
      (apply eap (s' := 8) (es := [[.int _ _]]) rfl rfl; exact Q0; exact j2; exact Q29; exact j2; exact kz; exact H5; exact Q6; exact Q4; exact Q4)
      refine E1 fun G hG => ?_
      refine B7 ?_
      have hit : tmR 1 rs i := ⟨⟨h9_1, by omega, (Classical.not_not.1 h9_32).symm⟩, fun _ => by omega⟩
      refine C6 (ih ⟨i + 1, m + 1 + 1, m + 1 + 1 + 1, G⟩ ⟨by dsimp only; omega, ?_, by dsimp only; omega, fun j hj => ?_⟩ (by dsimp only; omega)) (by (repeat first | exact LE.nil _ | refine LE.unk _ _ ?_ | refine LE.eq _ _ _ rfl ?_)) (LessH.refl _) (Nat.le_refl _)
      ·dsimp only; rw [hG]; show _ = some (Blk.mk ((vlL rs i ++ [_]).map iV) 1 3); rw [List.map_append]; exact Q0
      ·rcases Nat.lt_succ_iff_lt_or_eq.1 hj with q | q
       ·exact hok j q
       ·rw [q]; exact hit
   ·have hno : ¬ timeOK rdM 1 rs := fun e => by
     obtain ⟨⟨e1, e2, e3⟩, e4⟩ := e.2 i (by omega)
     first
     | exact h9_1 e1
     | omega
     | (have := e4 (by omega); omega)
     | exact h9_32 e3.symm
    refine ⟨0, trivial, ?_⟩
    rw [decide_eq_false hno]
    exact E4 rfl rfl
  ·have hvn : vlL rs i ≠ [] := fun e => by rw [e] at hrl; simp at hrl; omega
   apply eclSX [b] (r225 (vlL rs i) true hvn (by omega)) rfl j2
   ·exact SnapL.cons _ _ _ _ (.one _ _ (A3 (b := ⟨(vlL rs i).map iV, 1, 3⟩) ((vlL rs i).map iT) (List.mem_singleton.2 rfl) (by exact Q0) (rowsI _).symm (by rw [List.length_map]; exact hrl.symm))) SnapL.nil
   rintro M h12_1
   try dsimp only at h12_1
   (refine C2 (D7 (by first | rfl | assumption | exact Q25) rfl ?_))
   obtain rfl : i = rs.length := by omega
   have hyes : timeOK rdM 1 rs := ⟨by rw [hq]; omega, hok⟩
   refine ⟨M.getD (0 : Int).toNat 0, trivial, ?_⟩
   rw [decide_eq_true hyes]
   exact E4 rfl rfl
theorem r152_4 (rs : List Rg) (nn : Bool) : ∃ t : Int, True ∧ Pure En 152 [.one (.int .i64 4), .one (.sl nn (rs.map Rg.T))] [.one (.int .i64 t), .one (.bool (decide (timeOK rdM 4 rs)))] := by
 have hl : (rs.map Rg.T).length = rs.length := List.length_map ..
 have hq : quo 4 = 3 := by decide
 refine Pure.of_evX (st := [7]) (R := fun t : Int => [.one (.int .i64 t), .one (.bool (decide (timeOK rdM 4 rs)))]) (p := fun _ => True) Tryz.func152 rfl kb ?_
 refine B7 ?_
 refine C2 ?_
 rw [show IntKind.i64.wrap (((4 : Int) - 1).tdiv 3) = 1 from by decide]
 refine B7 ?_
 refine B7 ?_
 refine br ?_ ?_ <;> intro h2_5
 ·have hno : ¬ timeOK rdM 4 rs := fun e => by have := e.1; rw [hq] at this; omega
  refine ⟨0, trivial, ?_⟩
  rw [decide_eq_false hno]
  exact E4 rfl rfl
 ·refine D3 (es := []) j4 kz kb rfl rfl ?_
  refine U7 fun g0 hg0 => ?_
  refine A9 (fun (a : TR2) => [.int .i64 4, .sl false nn (rs.map Rg.T), .unk, .unk, .unk, .unk, .int .i64 1, .view a.b 0 a.i, .int .i64 a.i]) (fun (a : TR2) => a.g) (fun (a : TR2) => a.m) (fun (a : TR2) => TRI 4 rs a) (fun (a : TR2) => rs.length - a.i) ⟨0, 0, 1, g0⟩ ?_ ?_ ?_ ?_ ?_
  ·refine ⟨Nat.zero_le _, ?_, by dsimp only; omega, S9⟩
   dsimp only; rw [hg0]; exact Q0
  ·(repeat first | exact LE.nil _ | refine LE.unk _ _ ?_ | refine LE.eq _ _ _ rfl ?_)
  ·exact LessH.refl _
  ·exact Nat.le_refl _
  intro ⟨i, b, m, g⟩ hI ih
  have q0 := hI.il
  have qg := hI.out
  have qm := hI.bm
  have hok := hI.ok
  dsimp only at q0 qg qm hok ⊢
  have hrl := P3 rs i
  refine A7 (st := [7]) ?_
  refine br ?_ ?_ <;> intro h6_3
  ·(refine C2 (D7 (by first | rfl | assumption | exact Q25) rfl ?_))
   (apply est (u := .agg [.int _ _, .int _ _, .str _]) j3; exact Q0; exact Q8; exact j4; exact kb; rfl)
   (apply D2 (vs := [.int _ _, .int _ _, .str _]) j2; exact Q0; exact Q8; rfl; exact kb; rfl)
   refine B6 (r223 (rs.getD i Rg0)) rfl j2 ?_ ?_ <;> intro h9_1
   ·refine A4 ?_ (by exact Q0) (by exact Q8)
    refine br ?_ ?_ <;> intro h9_7
    ·have hno : ¬ timeOK rdM 4 rs := fun e => by
      obtain ⟨⟨e1, e2, e3⟩, e4⟩ := e.2 i (by omega)
      first
      | exact h9_1 e1
      | omega
      | (have := e4 (by omega); omega)
      | exact h9_32 e3.symm
     refine ⟨0, trivial, ?_⟩
     rw [decide_eq_false hno]
     exact E4 rfl rfl
    ·refine br ?_ ?_ <;> intro h9_11
     ·refine B7 ?_
      (refine C2 (D7 (by first | rfl | assumption | exact Q25) rfl ?_))
      refine A4 ?_ (by exact Q0) (by exact Q8)
      refine br ?_ ?_ <;> intro h9_21
      ·have hno : ¬ timeOK rdM 4 rs := fun e => by
        obtain ⟨⟨e1, e2, e3⟩, e4⟩ := e.2 i (by omega)
        first
        | exact h9_1 e1
        | omega
        | (have := e4 (by omega); omega)
        | exact h9_32 e3.symm
       refine ⟨0, trivial, ?_⟩
       rw [decide_eq_false hno]
       exact E4 rfl rfl
      ·refine A4 ?_ (by exact Q0) (by exact Q8)
       refine A4 ?_ (by exact Q0) (by exact Q8)
       refine C8 (r224 _ _) rfl rfl rfl ?_
       refine A4 ?_ (by exact Q0) (by exact Q8)
       refine br ?_ ?_ <;> intro h9_32
       ·have hno : ¬ timeOK rdM 4 rs := fun e => by
         obtain ⟨⟨e1, e2, e3⟩, e4⟩ := e.2 i (by omega)
         first
         | exact h9_1 e1
         | omega
         | (have := e4 (by omega); omega)
         | exact h9_32 e3.symm
        refine ⟨0, trivial, ?_⟩
        rw [decide_eq_false hno]
        exact E4 rfl rfl
       ·refine A4 ?_ (by exact Q0) (by exact Q8)
        refine D3 (es := [[.int _ _]]) j4 kz kb rfl rfl ?_
        (apply eap (s' := 8) (es := [[.int _ _]]) rfl rfl; exact Q0; exact j2; exact Q29; exact j2; exact kz; exact H5; exact Q6; exact Q4; exact Q4)
        refine E1 fun G hG => ?_
        refine B7 ?_
        have hit : tmR 4 rs i := ⟨⟨h9_1, by omega, (Classical.not_not.1 h9_32).symm⟩, fun _ => by omega⟩
        refine C6 (ih ⟨i + 1, m + 1 + 1, m + 1 + 1 + 1, G⟩ ⟨by dsimp only; omega, ?_, by dsimp only; omega, fun j hj => ?_⟩ (by dsimp only; omega)) (by (repeat first | exact LE.nil _ | refine LE.unk _ _ ?_ | refine LE.eq _ _ _ rfl ?_)) (LessH.refl _) (Nat.le_refl _)
        ·dsimp only; rw [hG]; show _ = some (Blk.mk ((vlL rs i ++ [_]).map iV) 1 3); rw [List.map_append]; exact Q0
        ·rcases Nat.lt_succ_iff_lt_or_eq.1 hj with q | q
         ·exact hok j q
         ·rw [q]; exact hit
     ·refine A4 ?_ (by exact Q0) (by exact Q8)
      refine A4 ?_ (by exact Q0) (by exact Q8)
      refine C8 (r224 _ _) rfl rfl rfl ?_
      refine A4 ?_ (by exact Q0) (by exact Q8)
      refine br ?_ ?_ <;> intro h9_32
      ·have hno : ¬ timeOK rdM 4 rs := fun e => by
        obtain ⟨⟨e1, e2, e3⟩, e4⟩ := e.2 i (by omega)
        first
        | exact h9_1 e1
        | omega
        | (have := e4 (by omega); omega)
        | exact h9_32 e3.symm
       refine ⟨0, trivial, ?_⟩
       rw [decide_eq_false hno]
       exact E4 rfl rfl
      ·refine A4 ?_ (by exact Q0) (by exact Q8)
       refine D3 (es := [[.int _ _]]) j4 kz kb rfl rfl ?_
       (apply eap (s' := 8) (es := [[.int _ _]]) rfl rfl; exact Q0; exact j2; exact Q29; exact j2; exact kz; exact H5; exact Q6; exact Q4; exact Q4)
       refine E1 fun G hG => ?_
       refine B7 ?_
       have hit : tmR 4 rs i := ⟨⟨h9_1, by omega, (Classical.not_not.1 h9_32).symm⟩, fun _ => by omega⟩
       refine C6 (ih ⟨i + 1, m + 1 + 1, m + 1 + 1 + 1, G⟩ ⟨by dsimp only; omega, ?_, by dsimp only; omega, fun j hj => ?_⟩ (by dsimp only; omega)) (by (repeat first | exact LE.nil _ | refine LE.unk _ _ ?_ | refine LE.eq _ _ _ rfl ?_)) (LessH.refl _) (Nat.le_refl _)
       ·dsimp only; rw [hG]; show _ = some (Blk.mk ((vlL rs i ++ [_]).map iV) 1 3); rw [List.map_append]; exact Q0
       ·rcases Nat.lt_succ_iff_lt_or_eq.1 hj with q | q
        ·exact hok j q
        ·rw [q]; exact hit
   ·have hno : ¬ timeOK rdM 4 rs := fun e => by
     obtain ⟨⟨e1, e2, e3⟩, e4⟩ := e.2 i (by omega)
     first
     | exact h9_1 e1
     | omega
     | (have := e4 (by omega); omega)
     | exact h9_32 e3.symm
    refine ⟨0, trivial, ?_⟩
    rw [decide_eq_false hno]
    exact E4 rfl rfl
  ·have hvn : vlL rs i ≠ [] := fun e => by rw [e] at hrl; simp at hrl; omega
   apply eclSX [b] (r225 (vlL rs i) true hvn (by omega)) rfl j2
   ·exact SnapL.cons _ _ _ _ (.one _ _ (A3 (b := ⟨(vlL rs i).map iV, 1, 3⟩) ((vlL rs i).map iT) (List.mem_singleton.2 rfl) (by exact Q0) (rowsI _).symm (by rw [List.length_map]; exact hrl.symm))) SnapL.nil
   rintro M h12_1
   try dsimp only at h12_1
   (refine C2 (D7 (by first | rfl | assumption | exact Q25) rfl ?_))
   obtain rfl : i = rs.length := by omega
   have hyes : timeOK rdM 4 rs := ⟨by rw [hq]; omega, hok⟩
   refine ⟨M.getD (1 : Int).toNat 0, trivial, ?_⟩
   rw [decide_eq_true hyes]
   exact E4 rfl rfl
theorem r152_7 (rs : List Rg) (nn : Bool) : ∃ t : Int, True ∧ Pure En 152 [.one (.int .i64 7), .one (.sl nn (rs.map Rg.T))] [.one (.int .i64 t), .one (.bool (decide (timeOK rdM 7 rs)))] := by
 have hl : (rs.map Rg.T).length = rs.length := List.length_map ..
 have hq : quo 7 = 5 := by decide
 refine Pure.of_evX (st := [7]) (R := fun t : Int => [.one (.int .i64 t), .one (.bool (decide (timeOK rdM 7 rs)))]) (p := fun _ => True) Tryz.func152 rfl kb ?_
 refine B7 ?_
 refine C2 ?_
 rw [show IntKind.i64.wrap (((7 : Int) - 1).tdiv 3) = 2 from by decide]
 refine B7 ?_
 refine B7 ?_
 refine br ?_ ?_ <;> intro h2_5
 ·have hno : ¬ timeOK rdM 7 rs := fun e => by have := e.1; rw [hq] at this; omega
  refine ⟨0, trivial, ?_⟩
  rw [decide_eq_false hno]
  exact E4 rfl rfl
 ·refine D3 (es := []) j4 kz kb rfl rfl ?_
  refine U7 fun g0 hg0 => ?_
  refine A9 (fun (a : TR2) => [.int .i64 7, .sl false nn (rs.map Rg.T), .unk, .unk, .unk, .unk, .int .i64 2, .view a.b 0 a.i, .int .i64 a.i]) (fun (a : TR2) => a.g) (fun (a : TR2) => a.m) (fun (a : TR2) => TRI 7 rs a) (fun (a : TR2) => rs.length - a.i) ⟨0, 0, 1, g0⟩ ?_ ?_ ?_ ?_ ?_
  ·refine ⟨Nat.zero_le _, ?_, by dsimp only; omega, S9⟩
   dsimp only; rw [hg0]; exact Q0
  ·(repeat first | exact LE.nil _ | refine LE.unk _ _ ?_ | refine LE.eq _ _ _ rfl ?_)
  ·exact LessH.refl _
  ·exact Nat.le_refl _
  intro ⟨i, b, m, g⟩ hI ih
  have q0 := hI.il
  have qg := hI.out
  have qm := hI.bm
  have hok := hI.ok
  dsimp only at q0 qg qm hok ⊢
  have hrl := P3 rs i
  refine A7 (st := [7]) ?_
  refine br ?_ ?_ <;> intro h6_3
  ·(refine C2 (D7 (by first | rfl | assumption | exact Q25) rfl ?_))
   (apply est (u := .agg [.int _ _, .int _ _, .str _]) j3; exact Q0; exact Q8; exact j4; exact kb; rfl)
   (apply D2 (vs := [.int _ _, .int _ _, .str _]) j2; exact Q0; exact Q8; rfl; exact kb; rfl)
   refine B6 (r223 (rs.getD i Rg0)) rfl j2 ?_ ?_ <;> intro h9_1
   ·refine A4 ?_ (by exact Q0) (by exact Q8)
    refine br ?_ ?_ <;> intro h9_7
    ·have hno : ¬ timeOK rdM 7 rs := fun e => by
      obtain ⟨⟨e1, e2, e3⟩, e4⟩ := e.2 i (by omega)
      first
      | exact h9_1 e1
      | omega
      | (have := e4 (by omega); omega)
      | exact h9_32 e3.symm
     refine ⟨0, trivial, ?_⟩
     rw [decide_eq_false hno]
     exact E4 rfl rfl
    ·refine br ?_ ?_ <;> intro h9_11
     ·refine B7 ?_
      (refine C2 (D7 (by first | rfl | assumption | exact Q25) rfl ?_))
      refine A4 ?_ (by exact Q0) (by exact Q8)
      refine br ?_ ?_ <;> intro h9_21
      ·have hno : ¬ timeOK rdM 7 rs := fun e => by
        obtain ⟨⟨e1, e2, e3⟩, e4⟩ := e.2 i (by omega)
        first
        | exact h9_1 e1
        | omega
        | (have := e4 (by omega); omega)
        | exact h9_32 e3.symm
       refine ⟨0, trivial, ?_⟩
       rw [decide_eq_false hno]
       exact E4 rfl rfl
      ·refine A4 ?_ (by exact Q0) (by exact Q8)
       refine A4 ?_ (by exact Q0) (by exact Q8)
       refine C8 (r224 _ _) rfl rfl rfl ?_
       refine A4 ?_ (by exact Q0) (by exact Q8)
       refine br ?_ ?_ <;> intro h9_32
       ·have hno : ¬ timeOK rdM 7 rs := fun e => by
         obtain ⟨⟨e1, e2, e3⟩, e4⟩ := e.2 i (by omega)
         first
         | exact h9_1 e1
         | omega
         | (have := e4 (by omega); omega)
         | exact h9_32 e3.symm
        refine ⟨0, trivial, ?_⟩
        rw [decide_eq_false hno]
        exact E4 rfl rfl
       ·refine A4 ?_ (by exact Q0) (by exact Q8)
        refine D3 (es := [[.int _ _]]) j4 kz kb rfl rfl ?_
        (apply eap (s' := 8) (es := [[.int _ _]]) rfl rfl; exact Q0; exact j2; exact Q29; exact j2; exact kz; exact H5; exact Q6; exact Q4; exact Q4)
        refine E1 fun G hG => ?_
        refine B7 ?_
        have hit : tmR 7 rs i := ⟨⟨h9_1, by omega, (Classical.not_not.1 h9_32).symm⟩, fun _ => by omega⟩
        refine C6 (ih ⟨i + 1, m + 1 + 1, m + 1 + 1 + 1, G⟩ ⟨by dsimp only; omega, ?_, by dsimp only; omega, fun j hj => ?_⟩ (by dsimp only; omega)) (by (repeat first | exact LE.nil _ | refine LE.unk _ _ ?_ | refine LE.eq _ _ _ rfl ?_)) (LessH.refl _) (Nat.le_refl _)
        ·dsimp only; rw [hG]; show _ = some (Blk.mk ((vlL rs i ++ [_]).map iV) 1 3); rw [List.map_append]; exact Q0
        ·rcases Nat.lt_succ_iff_lt_or_eq.1 hj with q | q
         ·exact hok j q
         ·rw [q]; exact hit
     ·refine A4 ?_ (by exact Q0) (by exact Q8)
      refine A4 ?_ (by exact Q0) (by exact Q8)
      refine C8 (r224 _ _) rfl rfl rfl ?_
      refine A4 ?_ (by exact Q0) (by exact Q8)
      refine br ?_ ?_ <;> intro h9_32
      ·have hno : ¬ timeOK rdM 7 rs := fun e => by
        obtain ⟨⟨e1, e2, e3⟩, e4⟩ := e.2 i (by omega)
        first
        | exact h9_1 e1
        | omega
        | (have := e4 (by omega); omega)
        | exact h9_32 e3.symm
       refine ⟨0, trivial, ?_⟩
       rw [decide_eq_false hno]
       exact E4 rfl rfl
      ·refine A4 ?_ (by exact Q0) (by exact Q8)
       refine D3 (es := [[.int _ _]]) j4 kz kb rfl rfl ?_
       (apply eap (s' := 8) (es := [[.int _ _]]) rfl rfl; exact Q0; exact j2; exact Q29; exact j2; exact kz; exact H5; exact Q6; exact Q4; exact Q4)
       refine E1 fun G hG => ?_
       refine B7 ?_
       have hit : tmR 7 rs i := ⟨⟨h9_1, by omega, (Classical.not_not.1 h9_32).symm⟩, fun _ => by omega⟩
       refine C6 (ih ⟨i + 1, m + 1 + 1, m + 1 + 1 + 1, G⟩ ⟨by dsimp only; omega, ?_, by dsimp only; omega, fun j hj => ?_⟩ (by dsimp only; omega)) (by (repeat first | exact LE.nil _ | refine LE.unk _ _ ?_ | refine LE.eq _ _ _ rfl ?_)) (LessH.refl _) (Nat.le_refl _)
       ·dsimp only; rw [hG]; show _ = some (Blk.mk ((vlL rs i ++ [_]).map iV) 1 3); rw [List.map_append]; exact Q0
       ·rcases Nat.lt_succ_iff_lt_or_eq.1 hj with q | q
        ·exact hok j q
        ·rw [q]; exact hit
   ·have hno : ¬ timeOK rdM 7 rs := fun e => by
     obtain ⟨⟨e1, e2, e3⟩, e4⟩ := e.2 i (by omega)
     first
     | exact h9_1 e1
     | omega
     | (have := e4 (by omega); omega)
     | exact h9_32 e3.symm
    refine ⟨0, trivial, ?_⟩
    rw [decide_eq_false hno]
    exact E4 rfl rfl
  ·have hvn : vlL rs i ≠ [] := fun e => by rw [e] at hrl; simp at hrl; omega
   apply eclSX [b] (r225 (vlL rs i) true hvn (by omega)) rfl j2
   ·exact SnapL.cons _ _ _ _ (.one _ _ (A3 (b := ⟨(vlL rs i).map iV, 1, 3⟩) ((vlL rs i).map iT) (List.mem_singleton.2 rfl) (by exact Q0) (rowsI _).symm (by rw [List.length_map]; exact hrl.symm))) SnapL.nil
   rintro M h12_1
   try dsimp only at h12_1
   (refine C2 (D7 (by first | rfl | assumption | exact Q25) rfl ?_))
   obtain rfl : i = rs.length := by omega
   have hyes : timeOK rdM 7 rs := ⟨by rw [hq]; omega, hok⟩
   refine ⟨M.getD (2 : Int).toNat 0, trivial, ?_⟩
   rw [decide_eq_true hyes]
   exact E4 rfl rfl
theorem r152 (n : Int) (hn : nodes n) (rs : List Rg) (nn : Bool) : ∃ t : Int, True ∧ Pure En 152 [.one (.int .i64 n), .one (.sl nn (rs.map Rg.T))] [.one (.int .i64 t), .one (.bool (decide (timeOK rdM n rs)))] := by
 rcases hn with rfl | rfl | rfl
 ·exact r152_1 rs nn
 ·exact r152_4 rs nn
 ·exact r152_7 rs nn
end Go.Proofs.YteifdelnahccjaaGreatDoor
