import Derived.Test.YteifdelnahccjaaGreatDoorW6
namespace Go.Proofs.YteifdelnahccjaaGreatDoor
open Go.V
set_option linter.unusedVariables false
set_option linter.unusedSimpArgs false
set_option maxRecDepth 20000
set_option maxHeartbeats 4000000
def LsOK {α : Type} (f : α → List V) (sz ty lo : Nat) (G : List α) (o : V) (b m : Nat) (g : Heap) : Prop := (G = [] ∧ o = .nsl) ∨ (o = .view b 0 G.length ∧ g b = some ⟨G.map f, sz, ty⟩ ∧ (lo ≤ b ∧ b < m))
theorem LsOK.keep {α : Type} {f : α → List V} {sz ty lo : Nat} {G : List α} {o : V} {b m m2 : Nat} {g g2 : Heap} (h : LsOK f sz ty lo G o b m g) (hm : m ≤ m2) (e : ∀ a, lo ≤ a → a < m → g2 a = g a) : LsOK f sz ty lo G o b m2 g2 :=
 h.imp (fun x => x) fun ⟨h1, h2, h3⟩ => ⟨h1, (e b h3.1 h3.2).trans h2, h3.1, by omega⟩
theorem I4 (L : List Rg) : rowsV (L.map Rg.T) = L.map Rg.V := by unfold rowsV; rw [List.map_map]; rfl
theorem bS1 {p : ByteArray} (h : 1 ≤ p.size) : Rd.sk p ⟨0, false⟩ 1 = ⟨1, false⟩ := Rd.sk_ok (n := 1) (by omega)
theorem bN1 {p : ByteArray} (h : 1 ≤ p.size) : Rd.nm p ⟨0, false⟩ 1 = num p 0 1 := Rd.nm_ok (by omega)
theorem bN0 {p : ByteArray} (h : p.size = 0) : Rd.nm p ⟨0, false⟩ 1 = 0 := Rd.nm_no (Rd.few_no (by show (p.size : Int) < 0 + 1; omega))
theorem bNle (p : ByteArray) : 0 ≤ Rd.nm p ⟨0, false⟩ 1 ∧ Rd.nm p ⟨0, false⟩ 1 ≤ 255 := by
 refine ⟨Rd.nm_0 _ _ _, ?_⟩
 rcases Nat.eq_zero_or_pos p.size with h | h
 ·rw [bN0 h]; omega
 ·rw [bN1 h]; exact num1_le _ _
theorem L1 {p : ByteArray} (h0 : p ≠ nullT) (h : Rd.nm p ⟨0, false⟩ 1 - 1 < 0 ∨ Rd.nm p ⟨0, false⟩ 1 - 1 > 7) : ¬ bOK p := by
 rintro (e | ⟨⟨e1, e2, _⟩, e3⟩)
 ·exact h0 e
 ·rw [bN1 e1] at h
  have : (btC p).rs.length = btN p := by simp [btC]
  unfold Bt.OK at e3
  rw [if_neg (by show ¬ false = true; exact Bool.noConfusion)] at e3
  have q := e3.2.1
  rw [this] at q
  unfold btN at q
  omega
theorem V7 {p : ByteArray} (h : ¬ Rd.nm p ⟨0, false⟩ 1 - 1 < 0) : 1 ≤ p.size ∧ 1 ≤ num p 0 1 := by
 rcases Nat.eq_zero_or_pos p.size with q | q
 ·rw [bN0 q] at h; omega
 ·rw [bN1 q] at h; exact ⟨q, by omega⟩
theorem V8 {p : ByteArray} (h : btL p) : (⟨false, rqV p (rgI p (Rd.sk p ⟨0, false⟩ 1) (btN p)), rgL p (Rd.sk p ⟨0, false⟩ 1) (btN p)⟩ : Bt) = btC p := by
 obtain ⟨h1, h2, h3, h4⟩ := h
 unfold btC
 rw [bS1 h1, Y8 h3, rgL_ok h3, rq_val h4]
theorem rgI_le {p : ByteArray} {s : Rd} (h : s.o ≤ p.size) : ∀ i, (rgI p s i).o ≤ p.size
 | 0 => h
 | i + 1 => Rd.sk_le (Rd.sk_le (Rd.sk_le (rgI_le h i) (by omega)) (by omega)) (by omega)
structure BS where
 i : Nat
 o : V
 b : Nat
 m : Nat
 g : Heap
def ZB (rq : Rq) (o : V) : Option Blk := some ⟨[[.bool false, .int .i64 rq.cl, .int .i64 rq.st, .int .i64 rq.kd, .int .i64 rq.le, .str rq.nm, o]], 7, 200⟩
structure BI (p : ByteArray) (k : Nat) (a : BS) : Prop where
 il : a.i ≤ k
 g0 : a.g 0 = ZB RqZ .nsl
 g1 : a.g 1 = some (rdB p (rgI p (Rd.sk p ⟨0, false⟩ 1) a.i))
 g3 : a.g 3 = ZB RqZ a.o
 out : LsOK Rg.V 3 273 4 (rgL p (Rd.sk p ⟨0, false⟩ 1) a.i) a.o a.b a.m a.g
 mm : 4 ≤ a.m
theorem s228 (p : ByteArray) : Pure En 228 [.one (.str p)] [.agg ((if bOK p then bX p else BtZ).T false), .one (.bool (decide (bOK p)))] := by
 have hnl := bNle p
 refine Pure.of_ev (st := [4, 11]) Tryz.func228 rfl kb ?_
 refine br ?_ ?_ <;> intro h1_1
 ·(apply est (u := .agg [.bool _, .int _ _, .int _ _, .int _ _, .int _ _, .str _, _]) j3; exact Q0; exact Q2; exact j4; exact kb; rfl)
  have hy : bOK p := .inl h1_1
  rw [if_pos hy, decide_eq_true hy, show bX p = BtN from if_pos h1_1]
  exact C9 [] (A0 (A3 rfl (by exact Q0) j2 kb rfl) (A0 rfl A2)) (SnapL.cons _ _ _ _ (SnapC.agg (.cons _ _ _ _ (.bool _) (.cons _ _ _ _ (.int _ _) (.cons _ _ _ _ (.int _ _) (.cons _ _ _ _ (.int _ _) (.cons _ _ _ _ (.int _ _) (.cons _ _ _ _ (.str _) (.cons _ _ _ _ .nslW .nil)))))))) (SnapL.cons _ _ _ _ (.one _ _ (.bool _)) SnapL.nil))
 ·refine O4 fun G hG => ?_
  have hrd : G 1 = some (rdB p ⟨0, false⟩) := by rw [hG]; unfold rdB; dsimp only; rw [ext_all]; exact Q0
  have hG0 : G 0 = ZB RqZ .nsl := by rw [hG]; exact Q0
  unfold ZB RqZ at hG0
  dsimp only at hG0
  refine L6 (P1 p ⟨0, false⟩ (Nat.zero_le _) 1 (by omega) ?_ hrd) rfl rfl rfl ?_
  ·exact G4
  refine C0 ?_
  refine br ?_ ?_ <;> intro h5_1
  ·(apply est (u := .agg [.bool _, .int _ _, .int _ _, .int _ _, .int _ _, .str _, _]) j3; exact Q0; exact Q2; exact j4; exact kb; rfl)
   have hno : ¬ bOK p := L1 h1_1 (.inr h5_1)
   rw [if_neg hno, decide_eq_false hno]
   refine C9 [] (A0 (A3 rfl (by exact Q0) j2 kb rfl) (A0 rfl A2)) ?_
   exact (SnapL.cons _ _ _ _ (SnapC.agg (.cons _ _ _ _ (.bool _) (.cons _ _ _ _ (.int _ _) (.cons _ _ _ _ (.int _ _) (.cons _ _ _ _ (.int _ _) (.cons _ _ _ _ (.int _ _) (.cons _ _ _ _ (.str _) (.cons _ _ _ _ .nslW .nil)))))))) (SnapL.cons _ _ _ _ (.one _ _ (.bool _)) SnapL.nil))
  ·refine wlG fun g0 hg0 => ?_
   refine B3 (fun (a : BS) => [.unk, .unk, .ptr 0 0 0, .unk, .ptr 1 0 0, .int .i64 (Rd.nm p ⟨0, false⟩ 1 - 1), .ptr 3 0 0, .unk, .unk, .unk, .unk, .unk, .unk, .unk, .unk, .unk, .unk, .unk, .unk, .unk, .int .i64 (max (Rd.nm p ⟨0, false⟩ 1 - 1) 0), .int .i64 a.i]) (fun (a : BS) => a.g) (fun (a : BS) => a.m) (fun (a : BS) => BI p (max (Rd.nm p ⟨0, false⟩ 1 - 1) 0).toNat a) (fun (a : BS) => (max (Rd.nm p ⟨0, false⟩ 1 - 1) 0).toNat - a.i) ⟨0, .nsl, 0, 4, g0⟩ ?_ ?_ ?_ ?_ ?_
   ·refine ⟨Nat.zero_le _, ?_, ?_, ?_, .inl ⟨rfl, rfl⟩, Nat.le_refl _⟩
    ·dsimp only; rw [hg0]; exact Q0
    ·dsimp only; rw [hg0]; exact Q0
    ·dsimp only; rw [hg0]; exact Q0
   ·(repeat first | exact LE.nil _ | refine LE.unk _ _ ?_ | refine LE.eq _ _ _ rfl ?_)
   ·exact LessH.refl _
   ·exact Nat.le_refl _
   intro ⟨i, o, b, m, g⟩ hI ih
   have q0 := hI.il
   have hg0 := hI.g0
   have hg1 := hI.g1
   have hg3 := hI.g3
   have q4 := hI.mm
   unfold ZB at hg0 hg3
   dsimp only at q0 hg0 hg1 hg3 q4 ⊢
   have hle : (rgI p (Rd.sk p ⟨0, false⟩ 1) i).o ≤ p.size := rgI_le (Rd.sk_le (Nat.zero_le _) (by omega)) i
   have hrl := rgL_len p (Rd.sk p ⟨0, false⟩ 1) i
   rcases hI.out with ⟨e0, e1⟩ | ⟨e1, gO, hbO⟩
   all_goals dsimp only at e1
   ·skip
    obtain rfl : i = 0 := by have := rgL_len p (Rd.sk p ⟨0, false⟩ 1) i; rw [e0] at this; exact this.symm
    subst e1
    refine A6 (st := [4, 11]) ?_
    refine br ?_ ?_ <;> intro h9_0
    ·refine A1 ?_ (by exact Q0) (by exact Q2)
     refine L6 (P1 p (rgI p (Rd.sk p ⟨0, false⟩ 1) 0) hle 1 (by omega) ?_ hg1) rfl rfl rfl ?_
     ·exact G4
     refine L6 (P1 p ((rgI p (Rd.sk p ⟨0, false⟩ 1) 0).sk p 1) (Rd.sk_le hle (by omega)) 4 (by omega) ?_ ?_) rfl rfl rfl ?_
     ·exact G4
     ·exact G4
     refine L6 (o270 p (((rgI p (Rd.sk p ⟨0, false⟩ 1) 0).sk p 1).sk p 4) (Rd.sk_le (Rd.sk_le hle (by omega)) (by omega)) 8 (by omega) ?_ ?_) rfl rfl rfl ?_
     ·exact G4
     ·exact G4
     refine F7 (es := [[.int _ _, .int _ _, .str _]]) j4 kz kb rfl rfl ?_
     first | (apply eap (s' := 32) (es := [[.int _ _, .int _ _, .str _]]) rfl rfl; exact Q0; exact j2; (first | rfl | (rw [List.length_map]; omega)); exact j2; exact kz; exact L7; exact Q3; exact Q6; exact Q6) | (apply ean (s' := 32) (es := [[.int _ _, .int _ _, .str _]]) rfl j3 kz; exact L7; exact Q3; exact Q6; exact Q6; exact Q6)
     (apply est (u := .view _ _ _) j3; exact Q0; exact Q2; exact j4; exact kb; rfl)
     refine clr 13 [3, 0, 3, 3, 0, 3, 0, 3, 0, 3, 0, 1, 0] [(1, 3), (1, 5), (1, 7), (1, 9)] j2 (by decide +kernel) ?_ ?_
     ·first | (simp [ClearL, ids]; done) | (simp [ClearL, ids]; omega) | (simp [ClearL, ids, srcIds, Env.eval, put, upd, retV, A.toV, T.toV]; try omega)
     refine O4 fun G hG => ?_
     refine C0 ?_
     refine C6 (ih ⟨0 + 1, .view (m + 1 + 1 + 1) 0 1, (m + 1 + 1 + 1), m + 1 + 1 + 1 + 1, G⟩ ⟨by dsimp only; omega, ?_, ?_, ?_, .inr ⟨?_, ?_, by dsimp only; omega, by dsimp only; omega⟩, by dsimp only; omega⟩ (by dsimp only; omega)) (by (repeat first | exact LE.nil _ | refine LE.unk _ _ ?_ | refine LE.eq _ _ _ rfl ?_)) (LessH.refl _) (Nat.le_refl _)
     ·dsimp only; rw [hG]; exact Q0
     ·dsimp only; rw [hG]; exact Q0
     ·dsimp only; rw [hG]; exact Q0
     ·show V.view _ 0 _ = V.view _ 0 (rgL p (Rd.sk p ⟨0, false⟩ 1) 0 ++ [_]).length; rw [List.length_append]; rfl
     ·dsimp only; rw [hG]; show _ = some (Blk.mk ((rgL p (Rd.sk p ⟨0, false⟩ 1) 0 ++ [_]).map Rg.V) 3 273); rw [List.map_append]; exact Q0
    ·have hl5 : (rqS p (rgI p (Rd.sk p ⟨0, false⟩ 1) 0)).o ≤ p.size := Rd.skz_le (Rd.sk_le (Rd.sk_le (Rd.sk_le (Rd.sk_le hle (by omega)) (by omega)) (by omega)) (by omega))
     refine L6 (o273 p (rgI p (Rd.sk p ⟨0, false⟩ 1) 0) hle ?_ hg1) rfl rfl rfl ?_
     ·exact G4
     (apply est (u := .agg [.int _ _, .int _ _, .int _ _, .int _ _, .str _]) j3; exact Q0; exact Q2; exact j4; exact kb; rfl)
     refine br ?_ ?_ <;> intro h13_1
     ·(apply est (u := .agg [.bool _, .int _ _, .int _ _, .int _ _, .int _ _, .str _, _]) j3; exact Q0; exact Q2; exact j4; exact kb; rfl)
      have hno : ¬ bOK p := by
       by_cases hm : (Rd.nm p ⟨0, false⟩ 1 - 1) < 0
       ·exact L1 h1_1 (.inl hm)
       ·obtain ⟨w1, w2⟩ := V7 hm
        rintro (e | ⟨e1, e2⟩)
        ·exact h1_1 e
        ·have ek : 0 = btN p := by unfold btN; rw [← bN1 w1]; omega
         have hd := (J3 w1 w2).2 e1
         rw [← bS1 w1, ← ek] at hd
         first
         | exact absurd hm h13_1
         | exact absurd hd h13_4
         | exact absurd (decide_eq_true hd) h13_4
         | exact h13_9 (by have q := V8 e1; rw [← ek] at q; rw [q]; exact e2)
         | exact absurd h13_1 hm
         | exact absurd hd (of_decide_eq_false h13_4)
      rw [if_neg hno, decide_eq_false hno]
      refine C9 [] (A0 (A3 rfl (by exact Q0) j2 kb rfl) (A0 rfl A2)) ?_
      exact (SnapL.cons _ _ _ _ (SnapC.agg (.cons _ _ _ _ (.bool _) (.cons _ _ _ _ (.int _ _) (.cons _ _ _ _ (.int _ _) (.cons _ _ _ _ (.int _ _) (.cons _ _ _ _ (.int _ _) (.cons _ _ _ _ (.str _) (.cons _ _ _ _ .nslW .nil)))))))) (SnapL.cons _ _ _ _ (.one _ _ (.bool _)) SnapL.nil))
     ·refine N2 (o216 p (rqS p (rgI p (Rd.sk p ⟨0, false⟩ 1) 0)) hl5 ?_ ?_) rfl j2 ?_ ?_
      ·exact G4
      ·exact G4
      all_goals intro h13_4
      ·(apply C3 (vs := [.bool _, .int _ _, .int _ _, .int _ _, .int _ _, .str _, _]) j2; exact Q0; exact Q2; rfl; exact kb; rfl)
       apply eclSP [b] (s274 ⟨false, rqV p (rgI p (Rd.sk p ⟨0, false⟩ 1) 0), rgL p (Rd.sk p ⟨0, false⟩ 1) 0⟩ false) rfl j2
       ·exact SnapL.cons _ _ _ _ (SnapC.agg (.cons _ _ _ _ (.bool _) (.cons _ _ _ _ (.int _ _) (.cons _ _ _ _ (.int _ _) (.cons _ _ _ _ (.int _ _) (.cons _ _ _ _ (.int _ _) (.cons _ _ _ _ (.str _) (.cons _ _ _ _ .nslW .nil)))))))) SnapL.nil
       all_goals intro h13_9
       ·(apply C3 (vs := [.bool _, .int _ _, .int _ _, .int _ _, .int _ _, .str _, _]) j2; exact Q0; exact Q2; rfl; exact kb; rfl)
        (apply est (u := .agg [.bool _, .int _ _, .int _ _, .int _ _, .int _ _, .str _, _]) j3; exact Q0; exact Q2; exact j4; exact kb; rfl)
        obtain ⟨w1, w2⟩ := V7 h13_1
        have ek : 0 = btN p := by unfold btN; rw [← bN1 w1]; omega
        have hbl : btL p := (J3 w1 w2).1 (by rw [← bS1 w1, ← ek]; exact of_decide_eq_true h13_4)
        have hv := V8 hbl
        rw [← ek] at hv
        have hyes : bOK p := .inr ⟨hbl, by rw [← hv]; exact h13_9⟩
        rw [if_pos hyes, decide_eq_true hyes]
        have hx : bX p = ⟨false, rqV p (rgI p (Rd.sk p ⟨0, false⟩ 1) 0), rgL p (Rd.sk p ⟨0, false⟩ 1) 0⟩ := by rw [hv]; exact if_neg h1_1
        rw [hx]
        refine C9 [] (A0 (A3 rfl (by exact Q0) j2 kb rfl) (A0 rfl A2)) ?_
        exact (SnapL.cons _ _ _ _ (SnapC.agg (.cons _ _ _ _ (.bool _) (.cons _ _ _ _ (.int _ _) (.cons _ _ _ _ (.int _ _) (.cons _ _ _ _ (.int _ _) (.cons _ _ _ _ (.int _ _) (.cons _ _ _ _ (.str _) (.cons _ _ _ _ .nslW .nil)))))))) (SnapL.cons _ _ _ _ (.one _ _ (.bool _)) SnapL.nil))
       ·(apply est (u := .agg [.bool _, .int _ _, .int _ _, .int _ _, .int _ _, .str _, _]) j3; exact Q0; exact Q2; exact j4; exact kb; rfl)
        have hno : ¬ bOK p := by
         by_cases hm : (Rd.nm p ⟨0, false⟩ 1 - 1) < 0
         ·exact L1 h1_1 (.inl hm)
         ·obtain ⟨w1, w2⟩ := V7 hm
          rintro (e | ⟨e1, e2⟩)
          ·exact h1_1 e
          ·have ek : 0 = btN p := by unfold btN; rw [← bN1 w1]; omega
           have hd := (J3 w1 w2).2 e1
           rw [← bS1 w1, ← ek] at hd
           first
           | exact absurd hm h13_1
           | exact absurd hd h13_4
           | exact absurd (decide_eq_true hd) h13_4
           | exact h13_9 (by have q := V8 e1; rw [← ek] at q; rw [q]; exact e2)
           | exact absurd h13_1 hm
           | exact absurd hd (of_decide_eq_false h13_4)
        rw [if_neg hno, decide_eq_false hno]
        refine C9 [] (A0 (A3 rfl (by exact Q0) j2 kb rfl) (A0 rfl A2)) ?_
        exact (SnapL.cons _ _ _ _ (SnapC.agg (.cons _ _ _ _ (.bool _) (.cons _ _ _ _ (.int _ _) (.cons _ _ _ _ (.int _ _) (.cons _ _ _ _ (.int _ _) (.cons _ _ _ _ (.int _ _) (.cons _ _ _ _ (.str _) (.cons _ _ _ _ .nslW .nil)))))))) (SnapL.cons _ _ _ _ (.one _ _ (.bool _)) SnapL.nil))
      ·(apply est (u := .agg [.bool _, .int _ _, .int _ _, .int _ _, .int _ _, .str _, _]) j3; exact Q0; exact Q2; exact j4; exact kb; rfl)
       have hno : ¬ bOK p := by
        by_cases hm : (Rd.nm p ⟨0, false⟩ 1 - 1) < 0
        ·exact L1 h1_1 (.inl hm)
        ·obtain ⟨w1, w2⟩ := V7 hm
         rintro (e | ⟨e1, e2⟩)
         ·exact h1_1 e
         ·have ek : 0 = btN p := by unfold btN; rw [← bN1 w1]; omega
          have hd := (J3 w1 w2).2 e1
          rw [← bS1 w1, ← ek] at hd
          first
          | exact absurd hm h13_1
          | exact absurd hd h13_4
          | exact absurd (decide_eq_true hd) h13_4
          | exact h13_9 (by have q := V8 e1; rw [← ek] at q; rw [q]; exact e2)
          | exact absurd h13_1 hm
          | exact absurd hd (of_decide_eq_false h13_4)
       rw [if_neg hno, decide_eq_false hno]
       refine C9 [] (A0 (A3 rfl (by exact Q0) j2 kb rfl) (A0 rfl A2)) ?_
       exact (SnapL.cons _ _ _ _ (SnapC.agg (.cons _ _ _ _ (.bool _) (.cons _ _ _ _ (.int _ _) (.cons _ _ _ _ (.int _ _) (.cons _ _ _ _ (.int _ _) (.cons _ _ _ _ (.int _ _) (.cons _ _ _ _ (.str _) (.cons _ _ _ _ .nslW .nil)))))))) (SnapL.cons _ _ _ _ (.one _ _ (.bool _)) SnapL.nil))
   ·skip
    dsimp only at e1 gO hbO
    subst e1
    refine A6 (st := [4, 11]) ?_
    refine br ?_ ?_ <;> intro h9_0
    ·refine A1 ?_ (by exact Q0) (by exact Q2)
     refine L6 (P1 p (rgI p (Rd.sk p ⟨0, false⟩ 1) i) hle 1 (by omega) ?_ hg1) rfl rfl rfl ?_
     ·exact G4
     refine L6 (P1 p ((rgI p (Rd.sk p ⟨0, false⟩ 1) i).sk p 1) (Rd.sk_le hle (by omega)) 4 (by omega) ?_ ?_) rfl rfl rfl ?_
     ·exact G4
     ·exact G4
     refine L6 (o270 p (((rgI p (Rd.sk p ⟨0, false⟩ 1) i).sk p 1).sk p 4) (Rd.sk_le (Rd.sk_le hle (by omega)) (by omega)) 8 (by omega) ?_ ?_) rfl rfl rfl ?_
     ·exact G4
     ·exact G4
     refine F7 (es := [[.int _ _, .int _ _, .str _]]) j4 kz kb rfl rfl ?_
     first | (apply eap (s' := 32) (es := [[.int _ _, .int _ _, .str _]]) rfl rfl; exact Q0; exact j2; (first | rfl | (rw [List.length_map]; omega)); exact j2; exact kz; exact L7; exact Q3; exact Q6; exact Q6) | (apply ean (s' := 32) (es := [[.int _ _, .int _ _, .str _]]) rfl j3 kz; exact L7; exact Q3; exact Q6; exact Q6; exact Q6)
     (apply est (u := .view _ _ _) j3; exact Q0; exact Q2; exact j4; exact kb; rfl)
     refine clr 13 [3, 0, 3, 3, 0, 3, 0, 3, 0, 3, 0, 1, 0] [(1, 3), (1, 5), (1, 7), (1, 9)] j2 (by decide +kernel) ?_ ?_
     ·first | (simp [ClearL, ids]; done) | (simp [ClearL, ids]; omega) | (simp [ClearL, ids, srcIds, Env.eval, put, upd, retV, A.toV, T.toV]; try omega)
     refine O4 fun G hG => ?_
     refine C0 ?_
     refine C6 (ih ⟨i + 1, .view (m + 1 + 1 + 1) 0 ((rgL p (Rd.sk p ⟨0, false⟩ 1) i).length + 1), (m + 1 + 1 + 1), m + 1 + 1 + 1 + 1, G⟩ ⟨by dsimp only; omega, ?_, ?_, ?_, .inr ⟨?_, ?_, by dsimp only; omega, by dsimp only; omega⟩, by dsimp only; omega⟩ (by dsimp only; omega)) (by (repeat first | exact LE.nil _ | refine LE.unk _ _ ?_ | refine LE.eq _ _ _ rfl ?_)) (LessH.refl _) (Nat.le_refl _)
     ·dsimp only; rw [hG]; exact Q0
     ·dsimp only; rw [hG]; exact Q0
     ·dsimp only; rw [hG]; exact Q0
     ·show V.view _ 0 _ = V.view _ 0 (rgL p (Rd.sk p ⟨0, false⟩ 1) i ++ [_]).length; rw [List.length_append]; rfl
     ·dsimp only; rw [hG]; show _ = some (Blk.mk ((rgL p (Rd.sk p ⟨0, false⟩ 1) i ++ [_]).map Rg.V) 3 273); rw [List.map_append]; exact Q0
    ·have hl5 : (rqS p (rgI p (Rd.sk p ⟨0, false⟩ 1) i)).o ≤ p.size := Rd.skz_le (Rd.sk_le (Rd.sk_le (Rd.sk_le (Rd.sk_le hle (by omega)) (by omega)) (by omega)) (by omega))
     refine L6 (o273 p (rgI p (Rd.sk p ⟨0, false⟩ 1) i) hle ?_ hg1) rfl rfl rfl ?_
     ·exact G4
     (apply est (u := .agg [.int _ _, .int _ _, .int _ _, .int _ _, .str _]) j3; exact Q0; exact Q2; exact j4; exact kb; rfl)
     refine br ?_ ?_ <;> intro h13_1
     ·(apply est (u := .agg [.bool _, .int _ _, .int _ _, .int _ _, .int _ _, .str _, _]) j3; exact Q0; exact Q2; exact j4; exact kb; rfl)
      have hno : ¬ bOK p := by
       by_cases hm : (Rd.nm p ⟨0, false⟩ 1 - 1) < 0
       ·exact L1 h1_1 (.inl hm)
       ·obtain ⟨w1, w2⟩ := V7 hm
        rintro (e | ⟨e1, e2⟩)
        ·exact h1_1 e
        ·have ek : i = btN p := by unfold btN; rw [← bN1 w1]; omega
         have hd := (J3 w1 w2).2 e1
         rw [← bS1 w1, ← ek] at hd
         first
         | exact absurd hm h13_1
         | exact absurd hd h13_4
         | exact absurd (decide_eq_true hd) h13_4
         | exact h13_9 (by have q := V8 e1; rw [← ek] at q; rw [q]; exact e2)
         | exact absurd h13_1 hm
         | exact absurd hd (of_decide_eq_false h13_4)
      rw [if_neg hno, decide_eq_false hno]
      refine C9 [] (A0 (A3 rfl (by exact Q0) j2 kb rfl) (A0 rfl A2)) ?_
      exact (SnapL.cons _ _ _ _ (SnapC.agg (.cons _ _ _ _ (.bool _) (.cons _ _ _ _ (.int _ _) (.cons _ _ _ _ (.int _ _) (.cons _ _ _ _ (.int _ _) (.cons _ _ _ _ (.int _ _) (.cons _ _ _ _ (.str _) (.cons _ _ _ _ .nslW .nil)))))))) (SnapL.cons _ _ _ _ (.one _ _ (.bool _)) SnapL.nil))
     ·refine N2 (o216 p (rqS p (rgI p (Rd.sk p ⟨0, false⟩ 1) i)) hl5 ?_ ?_) rfl j2 ?_ ?_
      ·exact G4
      ·exact G4
      all_goals intro h13_4
      ·(apply C3 (vs := [.bool _, .int _ _, .int _ _, .int _ _, .int _ _, .str _, _]) j2; exact Q0; exact Q2; rfl; exact kb; rfl)
       apply eclSP [b] (s274 ⟨false, rqV p (rgI p (Rd.sk p ⟨0, false⟩ 1) i), rgL p (Rd.sk p ⟨0, false⟩ 1) i⟩ false) rfl j2
       ·exact SnapL.cons _ _ _ _ (SnapC.agg (.cons _ _ _ _ (.bool _) (.cons _ _ _ _ (.int _ _) (.cons _ _ _ _ (.int _ _) (.cons _ _ _ _ (.int _ _) (.cons _ _ _ _ (.int _ _) (.cons _ _ _ _ (.str _) (.cons _ _ _ _ (.weak _ _ (B5 ((rgL p (Rd.sk p ⟨0, false⟩ 1) i).map Rg.T) (List.mem_singleton.2 rfl) (by exact Q0) (I4 _).symm (List.length_map ..).symm)) .nil)))))))) SnapL.nil
       all_goals intro h13_9
       ·(apply C3 (vs := [.bool _, .int _ _, .int _ _, .int _ _, .int _ _, .str _, _]) j2; exact Q0; exact Q2; rfl; exact kb; rfl)
        (apply est (u := .agg [.bool _, .int _ _, .int _ _, .int _ _, .int _ _, .str _, _]) j3; exact Q0; exact Q2; exact j4; exact kb; rfl)
        obtain ⟨w1, w2⟩ := V7 h13_1
        have ek : i = btN p := by unfold btN; rw [← bN1 w1]; omega
        have hbl : btL p := (J3 w1 w2).1 (by rw [← bS1 w1, ← ek]; exact of_decide_eq_true h13_4)
        have hv := V8 hbl
        rw [← ek] at hv
        have hyes : bOK p := .inr ⟨hbl, by rw [← hv]; exact h13_9⟩
        rw [if_pos hyes, decide_eq_true hyes]
        have hx : bX p = ⟨false, rqV p (rgI p (Rd.sk p ⟨0, false⟩ 1) i), rgL p (Rd.sk p ⟨0, false⟩ 1) i⟩ := by rw [hv]; exact if_neg h1_1
        rw [hx]
        refine C9 [b] (A0 (A3 rfl (by exact Q0) j2 kb rfl) (A0 rfl A2)) ?_
        exact (SnapL.cons _ _ _ _ (SnapC.agg (.cons _ _ _ _ (.bool _) (.cons _ _ _ _ (.int _ _) (.cons _ _ _ _ (.int _ _) (.cons _ _ _ _ (.int _ _) (.cons _ _ _ _ (.int _ _) (.cons _ _ _ _ (.str _) (.cons _ _ _ _ (.weak _ _ (B5 ((rgL p (Rd.sk p ⟨0, false⟩ 1) i).map Rg.T) (List.mem_singleton.2 rfl) (by exact Q0) (I4 _).symm (List.length_map ..).symm)) .nil)))))))) (SnapL.cons _ _ _ _ (.one _ _ (.bool _)) SnapL.nil))
       ·(apply est (u := .agg [.bool _, .int _ _, .int _ _, .int _ _, .int _ _, .str _, _]) j3; exact Q0; exact Q2; exact j4; exact kb; rfl)
        have hno : ¬ bOK p := by
         by_cases hm : (Rd.nm p ⟨0, false⟩ 1 - 1) < 0
         ·exact L1 h1_1 (.inl hm)
         ·obtain ⟨w1, w2⟩ := V7 hm
          rintro (e | ⟨e1, e2⟩)
          ·exact h1_1 e
          ·have ek : i = btN p := by unfold btN; rw [← bN1 w1]; omega
           have hd := (J3 w1 w2).2 e1
           rw [← bS1 w1, ← ek] at hd
           first
           | exact absurd hm h13_1
           | exact absurd hd h13_4
           | exact absurd (decide_eq_true hd) h13_4
           | exact h13_9 (by have q := V8 e1; rw [← ek] at q; rw [q]; exact e2)
           | exact absurd h13_1 hm
           | exact absurd hd (of_decide_eq_false h13_4)
        rw [if_neg hno, decide_eq_false hno]
        refine C9 [] (A0 (A3 rfl (by exact Q0) j2 kb rfl) (A0 rfl A2)) ?_
        exact (SnapL.cons _ _ _ _ (SnapC.agg (.cons _ _ _ _ (.bool _) (.cons _ _ _ _ (.int _ _) (.cons _ _ _ _ (.int _ _) (.cons _ _ _ _ (.int _ _) (.cons _ _ _ _ (.int _ _) (.cons _ _ _ _ (.str _) (.cons _ _ _ _ .nslW .nil)))))))) (SnapL.cons _ _ _ _ (.one _ _ (.bool _)) SnapL.nil))
      ·(apply est (u := .agg [.bool _, .int _ _, .int _ _, .int _ _, .int _ _, .str _, _]) j3; exact Q0; exact Q2; exact j4; exact kb; rfl)
       have hno : ¬ bOK p := by
        by_cases hm : (Rd.nm p ⟨0, false⟩ 1 - 1) < 0
        ·exact L1 h1_1 (.inl hm)
        ·obtain ⟨w1, w2⟩ := V7 hm
         rintro (e | ⟨e1, e2⟩)
         ·exact h1_1 e
         ·have ek : i = btN p := by unfold btN; rw [← bN1 w1]; omega
          have hd := (J3 w1 w2).2 e1
          rw [← bS1 w1, ← ek] at hd
          first
          | exact absurd hm h13_1
          | exact absurd hd h13_4
          | exact absurd (decide_eq_true hd) h13_4
          | exact h13_9 (by have q := V8 e1; rw [← ek] at q; rw [q]; exact e2)
          | exact absurd h13_1 hm
          | exact absurd hd (of_decide_eq_false h13_4)
       rw [if_neg hno, decide_eq_false hno]
       refine C9 [] (A0 (A3 rfl (by exact Q0) j2 kb rfl) (A0 rfl A2)) ?_
       exact (SnapL.cons _ _ _ _ (SnapC.agg (.cons _ _ _ _ (.bool _) (.cons _ _ _ _ (.int _ _) (.cons _ _ _ _ (.int _ _) (.cons _ _ _ _ (.int _ _) (.cons _ _ _ _ (.int _ _) (.cons _ _ _ _ (.str _) (.cons _ _ _ _ .nslW .nil)))))))) (SnapL.cons _ _ _ _ (.one _ _ (.bool _)) SnapL.nil))
open Go.V
set_option linter.unusedVariables false
set_option linter.unusedSimpArgs false
set_option maxRecDepth 20000
set_option maxHeartbeats 4000000
def mOK (p : ByteArray) : Prop := msL p ∧ (msC p).OK
instance dcMO (p : ByteArray) : Decidable (mOK p) := by unfold mOK; infer_instance
def mX (p : ByteArray) : Msg := if mOK p then msC p else Msg0
theorem s218 (p : ByteArray) : Pure En 218 [.one (.str p)] [.agg (mX p).T, .one (.bool (decide (mOK p)))] := by
 refine Pure.of_ev (st := [2]) Tryz.func218 rfl kb ?_
 refine O4 fun G hG => ?_
 have hrd : G 1 = some (rdB p ⟨0, false⟩) := by rw [hG]; unfold rdB; dsimp only; rw [ext_all]; exact Q0
 have hG0 : G 0 = some ⟨[Msg0.V], 7, 37⟩ := by rw [hG]; exact Q0
 unfold Msg.V Msg0 at hG0
 dsimp only at hG0
 refine L6 (P1 p (⟨0, false⟩ : Rd) (Nat.zero_le _) 1 (by omega) ?_ hrd) rfl rfl rfl ?_
 ·exact G4
 refine L6 (P1 p (Rd.sk p (⟨0, false⟩ : Rd) 1) (Rd.sk_le (Nat.zero_le _) (by omega)) 1 (by omega) ?_ ?_) rfl rfl rfl ?_
 ·exact G4
 ·exact G4
 refine L6 (P1 p (Rd.sk p (Rd.sk p (⟨0, false⟩ : Rd) 1) 1) (Rd.sk_le (Rd.sk_le (Nat.zero_le _) (by omega)) (by omega)) 1 (by omega) ?_ ?_) rfl rfl rfl ?_
 ·exact G4
 ·exact G4
 refine L6 (P1 p (Rd.sk p (Rd.sk p (Rd.sk p (⟨0, false⟩ : Rd) 1) 1) 1) (Rd.sk_le (Rd.sk_le (Rd.sk_le (Nat.zero_le _) (by omega)) (by omega)) (by omega)) 1 (by omega) ?_ ?_) rfl rfl rfl ?_
 ·exact G4
 ·exact G4
 refine L6 (o215 p (Rd.sk p (Rd.sk p (Rd.sk p (Rd.sk p (⟨0, false⟩ : Rd) 1) 1) 1) 1) (Rd.sk_le (Rd.sk_le (Rd.sk_le (Rd.sk_le (Nat.zero_le _) (by omega)) (by omega)) (by omega)) (by omega)) 1 (by omega) ?_ ?_) rfl rfl rfl ?_
 ·exact G4
 ·exact G4
 refine L6 (o215 p (Rd.skz p (Rd.sk p (Rd.sk p (Rd.sk p (Rd.sk p (⟨0, false⟩ : Rd) 1) 1) 1) 1) 1) (Rd.skz_le (Rd.sk_le (Rd.sk_le (Rd.sk_le (Rd.sk_le (Nat.zero_le _) (by omega)) (by omega)) (by omega)) (by omega))) 2 (by omega) ?_ ?_) rfl rfl rfl ?_
 ·exact G4
 ·exact G4
 refine L6 (o270 p (Rd.skz p (Rd.skz p (Rd.sk p (Rd.sk p (Rd.sk p (Rd.sk p (⟨0, false⟩ : Rd) 1) 1) 1) 1) 1) 2) (Rd.skz_le (Rd.skz_le (Rd.sk_le (Rd.sk_le (Rd.sk_le (Rd.sk_le (Nat.zero_le _) (by omega)) (by omega)) (by omega)) (by omega)))) 8 (by omega) ?_ ?_) rfl rfl rfl ?_
 ·exact G4
 ·exact G4
 (apply est (u := .agg [.int _ _, .int _ _, .int _ _, .int _ _, .str _, .str _, .str _]) j3; exact Q0; exact Q2; exact j4; exact kb; rfl)
 refine N2 (o216 p (msS p ⟨0, false⟩) (Rd.sk_le (Rd.skz_le (Rd.skz_le (Rd.sk_le (Rd.sk_le (Rd.sk_le (Rd.sk_le (Nat.zero_le _) (by omega)) (by omega)) (by omega)) (by omega)))) (by omega)) ?_ ?_) rfl j2 ?_ ?_
 ·exact G4
 ·exact G4
 all_goals intro h3_1
 ·(apply C3 (vs := [.int _ _, .int _ _, .int _ _, .int _ _, .str _, .str _, .str _]) j2; exact Q0; exact Q2; rfl; exact kb; rfl)
  refine B0 (s136 (msV p ⟨0, false⟩)) rfl j2 ?_ ?_ <;> intro h3_5
  ·(apply C3 (vs := [.int _ _, .int _ _, .int _ _, .int _ _, .str _, .str _, .str _]) j2; exact Q0; exact Q2; rfl; exact kb; rfl)
   (apply est (u := .agg [.int _ _, .int _ _, .int _ _, .int _ _, .str _, .str _, .str _]) j3; exact Q0; exact Q2; exact j4; exact kb; rfl)
   have hl : msL p := (ms_done p).1 (by first | exact h3_1 | exact of_decide_eq_true h3_1)
   have hv := ms_val hl
   have hyes : mOK p := ⟨hl, by rw [← hv]; exact h3_5⟩
   rw [decide_eq_true hyes, show mX p = msV p ⟨0, false⟩ from (if_pos hyes).trans hv.symm]
   refine C9 [] (A0 (A3 rfl (by exact Q0) j2 kb rfl) (A0 rfl A2)) ?_
   exact (SnapL.cons _ _ _ _ (SnapC.agg (.cons _ _ _ _ (.int _ _) (.cons _ _ _ _ (.int _ _) (.cons _ _ _ _ (.int _ _) (.cons _ _ _ _ (.int _ _) (.cons _ _ _ _ (.str _) (.cons _ _ _ _ (.str _) (.cons _ _ _ _ (.str _) .nil)))))))) (SnapL.cons _ _ _ _ (.one _ _ (.bool _)) SnapL.nil))
  ·(apply est (u := .agg [.int _ _, .int _ _, .int _ _, .int _ _, .str _, .str _, .str _]) j3; exact Q0; exact Q2; exact j4; exact kb; rfl)
   have hno : ¬ mOK p := by
    rintro ⟨e1, e2⟩
    have hd := (ms_done p).2 e1
    first
    | exact absurd hd h3_1
    | exact absurd hd (of_decide_eq_false h3_1)
    | exact absurd (decide_eq_true hd) h3_1
    | exact h3_5 (by rw [ms_val e1]; exact e2)
   rw [show mX p = Msg0 from if_neg hno, decide_eq_false hno]
   refine C9 [] (A0 (A3 rfl (by exact Q0) j2 kb rfl) (A0 rfl A2)) ?_
   exact (SnapL.cons _ _ _ _ (SnapC.agg (.cons _ _ _ _ (.int _ _) (.cons _ _ _ _ (.int _ _) (.cons _ _ _ _ (.int _ _) (.cons _ _ _ _ (.int _ _) (.cons _ _ _ _ (.str _) (.cons _ _ _ _ (.str _) (.cons _ _ _ _ (.str _) .nil)))))))) (SnapL.cons _ _ _ _ (.one _ _ (.bool _)) SnapL.nil))
 ·(apply est (u := .agg [.int _ _, .int _ _, .int _ _, .int _ _, .str _, .str _, .str _]) j3; exact Q0; exact Q2; exact j4; exact kb; rfl)
  have hno : ¬ mOK p := by
   rintro ⟨e1, e2⟩
   have hd := (ms_done p).2 e1
   first
   | exact absurd hd h3_1
   | exact absurd hd (of_decide_eq_false h3_1)
   | exact absurd (decide_eq_true hd) h3_1
   | exact h3_5 (by rw [ms_val e1]; exact e2)
  rw [show mX p = Msg0 from if_neg hno, decide_eq_false hno]
  refine C9 [] (A0 (A3 rfl (by exact Q0) j2 kb rfl) (A0 rfl A2)) ?_
  exact (SnapL.cons _ _ _ _ (SnapC.agg (.cons _ _ _ _ (.int _ _) (.cons _ _ _ _ (.int _ _) (.cons _ _ _ _ (.int _ _) (.cons _ _ _ _ (.int _ _) (.cons _ _ _ _ (.str _) (.cons _ _ _ _ (.str _) (.cons _ _ _ _ (.str _) .nil)))))))) (SnapL.cons _ _ _ _ (.one _ _ (.bool _)) SnapL.nil))
theorem s219 (m : Msg) : Pure En 219 [.agg m.T] [.one (.bool (decide (m.kd = 2 ∧ m.OK)))] := by
 refine Pure.of_ev (st := []) Tryz.func219 rfl kb ?_
 refine A1 ?_
 refine br ?_ ?_ <;> intro h1_2
 ·(apply C3 (vs := [.int _ _, .int _ _, .int _ _, .int _ _, .str _, .str _, .str _]) j2; exact Q0; rfl; rfl; exact kb; rfl)
  refine B0 (s136 m) rfl j2 ?_ ?_ <;> intro h1_5
  ·first | (refine B7 rfl ?_; exact ⟨by first | omega | assumption, by assumption⟩) | (refine A7 rfl ?_; rintro ⟨q1, q2⟩; first | omega | exact absurd q2 (by assumption))
  ·first | (refine B7 rfl ?_; exact ⟨by first | omega | assumption, by assumption⟩) | (refine A7 rfl ?_; rintro ⟨q1, q2⟩; first | omega | exact absurd q2 (by assumption))
 ·first | (refine B7 rfl ?_; exact ⟨by first | omega | assumption, by assumption⟩) | (refine A7 rfl ?_; rintro ⟨q1, q2⟩; first | omega | exact absurd q2 (by assumption))
open Go.V
set_option linter.unusedVariables false
set_option linter.unusedSimpArgs false
set_option maxRecDepth 20000
set_option maxHeartbeats 4000000
def tT (s : ByteArray) : List V.T := [.str s]
def tV (s : ByteArray) : List V := [.str s]
theorem rowsT (L : List ByteArray) : rowsV (L.map tT) = L.map tV := by unfold rowsV; rw [List.map_map]; rfl
theorem getV0 {α : Type} (f : α → List V) (d : α) {L : List α} {k : Nat} (h : k < L.length) : (L.map f)[0 + ((k : Int)).toNat]? = some (f (L.getD k d)) := by
 show (L.map f)[0 + k]? = _; rw [Nat.zero_add]; simp [h]
def lix : List ByteArray → Nat → Int
 | [], _ => -1
 | s :: r, k => if 20000 < s.size then k else lix r (k + 1)
theorem lix_at {L : List ByteArray} {i : Nat} (h : i < L.length) : lix (L.drop i) i = if 20000 < (L.getD i ⟨#[]⟩).size then (i : Int) else lix (L.drop (i + 1)) (i + 1) := by
 rw [List.drop_eq_getElem_cons h, show L.getD i ⟨#[]⟩ = L[i] by simp [h]]; rfl
theorem lix_end {L : List ByteArray} {i : Nat} (h : L.length ≤ i) : lix (L.drop i) i = -1 := by rw [List.drop_eq_nil_of_le h]; rfl
theorem Z9 : ∀ (L : List ByteArray) (k : Nat), 0 ≤ lix L k ↔ ¬ short L
 | [], k => ⟨fun h => by have q : (0 : Int) ≤ -1 := h; omega, fun h => absurd (fun s hs => (by cases hs)) h⟩
 | s :: r, k => by
  unfold lix
  by_cases c : 20000 < s.size
  ·rw [if_pos c]
   exact ⟨fun _ q => by have := q s (List.mem_cons_self ..); omega, fun _ => by omega⟩
  ·rw [if_neg c, Z9 r (k + 1)]
   exact ⟨fun h q => h (fun x hx => q x (List.mem_cons_of_mem _ hx)), fun h q => h (fun x hx => by
    rcases List.mem_cons.1 hx with e | e
    ·rw [e]; omega
    ·exact q x e)⟩
def lsI (p : ByteArray) : Nat → Rd
 | 0 => Rd.sk p ⟨0, false⟩ 1
 | i + 1 => (lsI p i).skz p 2
def lsX (p : ByteArray) : Nat → List ByteArray
 | 0 => []
 | i + 1 => lsX p i ++ [(lsI p i).tkz p 2]
theorem lsX_len (p : ByteArray) : ∀ i, (lsX p i).length = i
 | 0 => rfl
 | i + 1 => by show (lsX p i ++ [_]).length = _; rw [List.length_append, lsX_len p i]; rfl
theorem AA (p : ByteArray) : ∀ i, (lsI p i).o ≤ p.size
 | 0 => Rd.sk_le (Nat.zero_le _) (by omega)
 | i + 1 => Rd.skz_le (AA p i)
theorem lsI_bad {p : ByteArray} (h : p.size = 0) : ∀ i, (lsI p i).b = true
 | 0 => Rd.sk_noI (by show (p.size : Int) < 0 + 1; omega)
 | i + 1 => Rd.skz_bad (lsI_bad h i)
theorem ls_no {p : ByteArray} (h1 : 1 ≤ p.size) : ∀ {i : Nat}, (∀ l o, sg p i = some (l, o) → lsI p i = ⟨o, false⟩ ∧ lsX p i = l) ∧ (sg p i = none → (lsI p i).b = true)
 | 0 => ⟨fun l o h => (by cases h; exact ⟨bS1 h1, rfl⟩), fun h => (by cases h)⟩
 | i + 1 => by
  have ih := ls_no h1 (i := i)
  match e : sg p i with
  | none => exact ⟨fun l o h => (by rw [sg_mono e] at h; cases h), fun _ => Rd.skz_bad (ih.2 e)⟩
  | some (l, o) =>
   obtain ⟨e1, e2⟩ := ih.1 l o e
   have ol := (sg_len e).2.1 h1
   by_cases c : o + 2 ≤ p.size ∧ o + 2 + (num p o 2).toNat ≤ p.size
   ·refine ⟨fun l2 o2 h => ?_, fun h => (by rw [Y9 e c] at h; cases h)⟩
    rw [Y9 e c] at h
    cases h
    refine ⟨?_, ?_⟩
    ·show Rd.skz p (lsI p i) 2 = _
     rw [e1, Y7 c.1 c.2]
    ·show lsX p i ++ [Rd.tkz p (lsI p i) 2] = _
     rw [e1, e2, tkz_ok c.1 c.2]
   ·refine ⟨fun l2 o2 h => (by rw [sg_no e c] at h; cases h), fun _ => ?_⟩
    show (Rd.skz p (lsI p i) 2).b = true
    rw [e1]; exact skz_no ol c
theorem lsC_yes {p : ByteArray} {k : Nat} (hk : k = (Rd.nm p ⟨0, false⟩ 1).toNat) (hd : (lsI p k).done p) (h100 : k ≤ 100) (hs : short (lsX p k)) : lsC p = some (lsX p k) := by
 rcases Nat.eq_zero_or_pos p.size with z | z
 ·have := hd.1; rw [lsI_bad z] at this; cases this
 ·rw [bN1 z] at hk
  have n0 := L2 p 0 1
  match e : sg p k with
  | none => have := hd.1; rw [(ls_no z).2 e] at this; cases this
  | some (l, o) =>
   obtain ⟨e1, e2⟩ := (ls_no z).1 l o e
   rw [e1] at hd
   have ho : o = p.size := hd.2
   unfold lsC
   rw [if_pos ⟨z, by omega⟩, ← hk, e]
   show (if o = p.size ∧ short l then some l else none) = _
   rw [if_pos ⟨ho, by rw [← e2]; exact hs⟩, e2]
theorem U9 {p : ByteArray} {k : Nat} (hk : k = (Rd.nm p ⟨0, false⟩ 1).toNat) (h : ¬ (lsI p k).done p ∨ 100 < k ∨ ¬ short (lsX p k)) : lsC p = none := by
 unfold lsC
 split
 ·next c =>
  rw [bN1 c.1] at hk
  rw [← hk]
  match e : sg p k with
  | none => rfl
  | some (l, o) =>
   obtain ⟨e1, e2⟩ := (ls_no c.1).1 l o e
   show (if o = p.size ∧ short l then some l else none) = _
   rw [if_neg]
   rintro ⟨q1, q2⟩
   rcases h with h | h | h
   ·rw [e1] at h; exact h ⟨rfl, q1⟩
   ·omega
   ·rw [e2] at h; exact h q2
 ·rfl
def lsO (p : ByteArray) : List ByteArray := match lsC p with | some l => l | none => []
structure LS where
 i : Nat
 o : V
 b : Nat
 m : Nat
 g : Heap
structure LI (p : ByteArray) (k : Nat) (a : LS) : Prop where
 il : a.i ≤ k
 g0 : a.g 0 = some (rdB p (lsI p a.i))
 out : LsOK tV 1 9 1 (lsX p a.i) a.o a.b a.m a.g
 mm : 1 ≤ a.m
theorem s217 (s : ByteArray) : Pure En 217 [.one (.str s)] [.one (.bool (decide (20000 < s.size)))] := by
 refine Pure.of_ev (st := []) Tryz.func217 rfl kb ?_
 refine br ?_ ?_ <;> intro h1_2
 ·first | (refine B7 rfl ?_; omega) | (refine A7 rfl ?_; omega)
 ·first | (refine B7 rfl ?_; omega) | (refine A7 rfl ?_; omega)
theorem o238 (L : List ByteArray) (hL : L.length ≤ 1048576) {b : Nat} {h : Heap} {n : Nat} (hb : h b = some ⟨L.map tV, 1, 9⟩) (hk : b < n) : V.Open En 238 [.view b 0 L.length, .clo 217 []] h n (.int .i64 (lix L 0)) [] n := by
 have hl : (L.map tV).length = L.length := List.length_map ..
 refine V.Open.of_ev (st := []) Tryz.func238 rfl kb ?_
 refine B3 (fun (i : Nat) => [.view b 0 L.length, .clo 217 [], .unk, .unk, .unk, .unk, .unk, .int .i64 L.length, .int .i64 i]) (fun (i : Nat) => h) (fun (i : Nat) => n) (fun (i : Nat) => i ≤ L.length ∧ lix (L.drop i) i = lix L 0) (fun (i : Nat) => L.length - i) 0 ?_ ?_ ?_ ?_ ?_
 ·exact ⟨Nat.zero_le _, rfl⟩
 ·(repeat first | exact LE.nil _ | refine LE.unk _ _ ?_ | refine LE.eq _ _ _ rfl ?_)
 ·exact LessH.refl _
 ·exact Nat.le_refl _
 intro i hI ih
 obtain ⟨q0, q1⟩ := hI
 refine A6 (st := []) ?_
 refine br ?_ ?_ <;> intro h2_0
 ·(refine H1 (by exact Q0) ⟨rfl, B9 ?_⟩)
  refine A1 ?_ (by exact Q0) (by (first | rfl | assumption | exact getV0 tV ⟨#[]⟩ (k := i) (by omega)))
  refine B0 (s217 (L.getD i ⟨#[]⟩)) rfl j2 ?_ ?_ <;> intro h4_5
  ·rw [show lix L 0 = (i : Int) by rw [← q1, lix_at (by omega)]; exact if_pos h4_5]
   exact fiO rfl rfl (fun _ _ _ e => e) (Nat.le_refl _)
  ·refine C0 ?_
   have e := lix_at (L := L) (i := i) (by omega)
   rw [if_neg h4_5] at e
   have e1 := e.symm.trans q1
   exact C6 (ih (i + 1) ⟨by omega, e1⟩ (by omega)) (by (repeat first | exact LE.nil _ | refine LE.unk _ _ ?_ | refine LE.eq _ _ _ rfl ?_)) (LessH.refl _) (Nat.le_refl _)
 ·rw [show lix L 0 = -1 by rw [← q1, lix_end (by omega)]]
  exact fiO rfl rfl (fun _ _ _ e => e) (Nat.le_refl _)
theorem o238n {h : Heap} {n : Nat} : V.Open En 238 [.nsl, .clo 217 []] h n (.int .i64 (-1)) [] n := by
 refine V.Open.of_ev (st := []) Tryz.func238 rfl kb ?_
 refine A6 (st := []) ?_
 refine br (fun h => absurd h ((by omega))) ?_
 intro h2_0
 exact fiO rfl rfl (fun _ _ _ e => e) (Nat.le_refl _)
theorem o181 (L : List ByteArray) (hL : L.length ≤ 1048576) {b : Nat} {h : Heap} {n : Nat} (hb : h b = some ⟨L.map tV, 1, 9⟩) (hk : b < n) : V.Open En 181 [.view b 0 L.length, .clo 217 []] h n (.bool (decide (¬ short L))) [] n := by
 refine V.Open.of_ev (st := []) Tryz.func181 rfl kb ?_
 refine L6 (o238 L hL hb hk) rfl rfl rfl ?_
 refine br ?_ ?_ <;> intro h1_3
 ·first
  | (rw [decide_eq_true ((Z9 L 0).1 (by omega))]; exact fiO rfl rfl (fun _ _ _ e => e) (Nat.le_refl _))
  | (rw [decide_eq_false (fun q => by have := (Z9 L 0).2 q; omega)]; exact fiO rfl rfl (fun _ _ _ e => e) (Nat.le_refl _))
 ·first
  | (rw [decide_eq_true ((Z9 L 0).1 (by omega))]; exact fiO rfl rfl (fun _ _ _ e => e) (Nat.le_refl _))
  | (rw [decide_eq_false (fun q => by have := (Z9 L 0).2 q; omega)]; exact fiO rfl rfl (fun _ _ _ e => e) (Nat.le_refl _))
theorem o181n {h : Heap} {n : Nat} : V.Open En 181 [.nsl, .clo 217 []] h n (.bool false) [] n := by
 refine V.Open.of_ev (st := []) Tryz.func181 rfl kb ?_
 refine L6 o238n rfl rfl rfl ?_
 refine br ?_ ?_ <;> intro h1_3
 ·first | exact fiO rfl rfl (fun _ _ _ e => e) (Nat.le_refl _) | (exfalso; omega)
 ·first | exact fiO rfl rfl (fun _ _ _ e => e) (Nat.le_refl _) | (exfalso; omega)
theorem s147 (p : ByteArray) : Pure En 147 [.one (.str p)] [.one (.sl false ((lsO p).map tT)), .one (.bool (lsC p).isSome)] := by
 have hnl := bNle p
 refine Pure.of_ev (st := [3, 6]) Tryz.func147 rfl kb ?_
 refine O4 fun G hG => ?_
 have hrd : G 0 = some (rdB p ⟨0, false⟩) := by rw [hG]; unfold rdB; dsimp only; rw [ext_all]; exact Q0
 refine L6 (P1 p ⟨0, false⟩ (Nat.zero_le _) 1 (by omega) ?_ hrd) rfl rfl rfl ?_
 ·exact G4
 refine wlG fun g0 hg0 => ?_
 refine B3 (fun (a : LS) => [.unk, .unk, .unk, .unk, .ptr 0 0 0, a.o, .unk, .unk, .unk, .unk, .int .i64 (Rd.nm p ⟨0, false⟩ 1), .int .i64 a.i]) (fun (a : LS) => a.g) (fun (a : LS) => a.m) (fun (a : LS) => LI p (Rd.nm p ⟨0, false⟩ 1).toNat a) (fun (a : LS) => (Rd.nm p ⟨0, false⟩ 1).toNat - a.i) ⟨0, .nsl, 0, 1 + 1, g0⟩ ?_ ?_ ?_ ?_ ?_
 ·refine ⟨Nat.zero_le _, ?_, .inl ⟨rfl, rfl⟩, by dsimp only; omega⟩
  dsimp only; rw [hg0]; exact Q0
 ·(repeat first | exact LE.nil _ | refine LE.unk _ _ ?_ | refine LE.eq _ _ _ rfl ?_)
 ·exact LessH.refl _
 ·exact Nat.le_refl _
 intro ⟨i, o, b, m, g⟩ hI ih
 have q0 := hI.il
 have hg0 := hI.g0
 have q4 := hI.mm
 dsimp only at q0 hg0 q4 ⊢
 have hrl := lsX_len p i
 rcases hI.out with ⟨e0, e1⟩ | ⟨e1, hbO2, hbO⟩
 all_goals dsimp only at e1
 ·skip
  obtain rfl : i = 0 := by rw [e0] at hrl; exact hrl.symm
  subst e1
  refine A6 (st := [3, 6]) ?_
  refine br ?_ ?_ <;> intro h4_0
  ·refine L6 (o215 p (lsI p 0) (AA p 0) 2 (by omega) ?_ ?_) rfl rfl rfl ?_
   ·exact G4
   ·exact G4
   refine F7 (es := [[.str _]]) j4 kz kb rfl rfl ?_
   (apply ean (s' := 16) (es := [[.str _]]) rfl j3 kz; exact L7; exact Q3; exact Q6; exact Q6; exact Q6)
   refine O4 fun G hG => ?_
   refine C0 ?_
   refine C6 (ih ⟨0 + 1, .view (m + 1 + 1) 0 1, m + 1 + 1, m + 1 + 1 + 1, G⟩ ⟨by dsimp only; omega, ?_, .inr ⟨?_, ?_, by dsimp only; omega, by dsimp only; omega⟩, by dsimp only; omega⟩ (by dsimp only; omega)) (by (repeat first | exact LE.nil _ | refine LE.unk _ _ ?_ | refine LE.eq _ _ _ rfl ?_)) (LessH.refl _) (Nat.le_refl _)
   ·dsimp only; rw [hG]; exact Q0
   ·show V.view _ 0 _ = V.view _ 0 (lsX p 0 ++ [_]).length; rw [List.length_append]; rfl
   ·dsimp only; rw [hG]; show _ = some (Blk.mk ((lsX p 0 ++ [_]).map tV) 1 9); rw [List.map_append]; exact Q0
  ·refine N2 (o216 p (lsI p 0) (AA p 0) ?_ ?_) rfl j2 ?_ ?_
   ·exact G4
   ·exact G4
   all_goals intro h7_1
   ·refine br ?_ ?_ <;> intro h7_6
    ·have ek : 0 = (Rd.nm p ⟨0, false⟩ 1).toNat := by omega
     have hno : lsC p = none := U9 ek (by
      first
      | exact .inl (of_decide_eq_false h7_1)
      | exact .inl h7_1
      | exact .inr (.inl (by omega))
      | exact .inr (.inr (of_decide_eq_true h7_10)))
     rw [show lsO p = [] by unfold lsO; rw [hno], hno]
     exact C9 [] (A0 rfl (A0 rfl A2)) (SnapL.cons _ _ _ _ (.one _ _ .nslW) (SnapL.cons _ _ _ _ (.one _ _ (.bool _)) SnapL.nil))
    ·refine N2 o181n rfl j2 ?_ ?_
     all_goals intro h7_10
     ·have ek : 0 = (Rd.nm p ⟨0, false⟩ 1).toNat := by omega
      have hno : lsC p = none := U9 ek (by
       first
       | exact .inl (of_decide_eq_false h7_1)
       | exact .inl h7_1
       | exact .inr (.inl (by omega))
       | exact .inr (.inr (of_decide_eq_true h7_10)))
      rw [show lsO p = [] by unfold lsO; rw [hno], hno]
      exact C9 [] (A0 rfl (A0 rfl A2)) (SnapL.cons _ _ _ _ (.one _ _ .nslW) (SnapL.cons _ _ _ _ (.one _ _ (.bool _)) SnapL.nil))
     ·have ek : 0 = (Rd.nm p ⟨0, false⟩ 1).toNat := by omega
      have hyes : lsC p = some (lsX p 0) := lsC_yes ek (by first | exact of_decide_eq_true h7_1 | exact h7_1) (by omega) (fun s hs => by cases hs)
      rw [show lsO p = lsX p 0 by unfold lsO; rw [hyes], hyes]
      refine C9 [] (A0 rfl (A0 rfl A2)) ?_
      exact (SnapL.cons _ _ _ _ (.one _ _ .nslW) (SnapL.cons _ _ _ _ (.one _ _ (.bool _)) SnapL.nil))
   ·have ek : 0 = (Rd.nm p ⟨0, false⟩ 1).toNat := by omega
    have hno : lsC p = none := U9 ek (by
     first
     | exact .inl (of_decide_eq_false h7_1)
     | exact .inl h7_1
     | exact .inr (.inl (by omega))
     | exact .inr (.inr (of_decide_eq_true h7_10)))
    rw [show lsO p = [] by unfold lsO; rw [hno], hno]
    exact C9 [] (A0 rfl (A0 rfl A2)) (SnapL.cons _ _ _ _ (.one _ _ .nslW) (SnapL.cons _ _ _ _ (.one _ _ (.bool _)) SnapL.nil))
 ·skip
  dsimp only at hbO2 hbO
  subst e1
  have hl100 : (lsX p i).length ≤ 1048576 := by omega
  refine A6 (st := [3, 6]) ?_
  refine br ?_ ?_ <;> intro h4_0
  ·refine L6 (o215 p (lsI p i) (AA p i) 2 (by omega) ?_ ?_) rfl rfl rfl ?_
   ·exact G4
   ·exact G4
   refine F7 (es := [[.str _]]) j4 kz kb rfl rfl ?_
   (apply eap (s' := 16) (es := [[.str _]]) rfl rfl; exact Q0; exact j2; exact Q29; exact j2; exact kz; exact L7; exact Q3; exact Q6; exact Q6)
   refine O4 fun G hG => ?_
   refine C0 ?_
   refine C6 (ih ⟨i + 1, .view (m + 1 + 1) 0 ((lsX p i).length + 1), m + 1 + 1, m + 1 + 1 + 1, G⟩ ⟨by dsimp only; omega, ?_, .inr ⟨?_, ?_, by dsimp only; omega, by dsimp only; omega⟩, by dsimp only; omega⟩ (by dsimp only; omega)) (by (repeat first | exact LE.nil _ | refine LE.unk _ _ ?_ | refine LE.eq _ _ _ rfl ?_)) (LessH.refl _) (Nat.le_refl _)
   ·dsimp only; rw [hG]; exact Q0
   ·show V.view _ 0 _ = V.view _ 0 (lsX p i ++ [_]).length; rw [List.length_append]; rfl
   ·dsimp only; rw [hG]; show _ = some (Blk.mk ((lsX p i ++ [_]).map tV) 1 9); rw [List.map_append]; exact Q0
  ·refine N2 (o216 p (lsI p i) (AA p i) ?_ ?_) rfl j2 ?_ ?_
   ·exact G4
   ·exact G4
   all_goals intro h7_1
   ·refine br ?_ ?_ <;> intro h7_6
    ·have ek : i = (Rd.nm p ⟨0, false⟩ 1).toNat := by omega
     have hno : lsC p = none := U9 ek (by
      first
      | exact .inl (of_decide_eq_false h7_1)
      | exact .inl h7_1
      | exact .inr (.inl (by omega))
      | exact .inr (.inr (of_decide_eq_true h7_10)))
     rw [show lsO p = [] by unfold lsO; rw [hno], hno]
     exact C9 [] (A0 rfl (A0 rfl A2)) (SnapL.cons _ _ _ _ (.one _ _ .nslW) (SnapL.cons _ _ _ _ (.one _ _ (.bool _)) SnapL.nil))
    ·refine N2 (o181 (lsX p i) hl100 hbO2 ?_) rfl j2 ?_ ?_
     ·exact G4
     all_goals intro h7_10
     ·have ek : i = (Rd.nm p ⟨0, false⟩ 1).toNat := by omega
      have hno : lsC p = none := U9 ek (by
       first
       | exact .inl (of_decide_eq_false h7_1)
       | exact .inl h7_1
       | exact .inr (.inl (by omega))
       | exact .inr (.inr (of_decide_eq_true h7_10)))
      rw [show lsO p = [] by unfold lsO; rw [hno], hno]
      exact C9 [] (A0 rfl (A0 rfl A2)) (SnapL.cons _ _ _ _ (.one _ _ .nslW) (SnapL.cons _ _ _ _ (.one _ _ (.bool _)) SnapL.nil))
     ·have ek : i = (Rd.nm p ⟨0, false⟩ 1).toNat := by omega
      have hyes : lsC p = some (lsX p i) := lsC_yes ek (by first | exact of_decide_eq_true h7_1 | exact h7_1) (by omega) (by have q := of_decide_eq_false h7_10; exact Classical.not_not.1 q)
      rw [show lsO p = lsX p i by unfold lsO; rw [hyes], hyes]
      refine C9 [b] (A0 rfl (A0 rfl A2)) ?_
      exact (SnapL.cons _ _ _ _ (.one _ _ (.weak _ _ (B5 (b := ⟨(lsX p i).map tV, 1, 9⟩) ((lsX p i).map tT) (List.mem_singleton.2 rfl) (by exact Q0) (rowsT _).symm (List.length_map ..).symm))) (SnapL.cons _ _ _ _ (.one _ _ (.bool _)) SnapL.nil))
   ·have ek : i = (Rd.nm p ⟨0, false⟩ 1).toNat := by omega
    have hno : lsC p = none := U9 ek (by
     first
     | exact .inl (of_decide_eq_false h7_1)
     | exact .inl h7_1
     | exact .inr (.inl (by omega))
     | exact .inr (.inr (of_decide_eq_true h7_10)))
    rw [show lsO p = [] by unfold lsO; rw [hno], hno]
    exact C9 [] (A0 rfl (A0 rfl A2)) (SnapL.cons _ _ _ _ (.one _ _ .nslW) (SnapL.cons _ _ _ _ (.one _ _ (.bool _)) SnapL.nil))
open Go.V
set_option linter.unusedVariables false
set_option linter.unusedSimpArgs false
set_option maxRecDepth 20000
set_option maxHeartbeats 4000000
theorem B2 {α : Type} (f : α → List V.T) (d : α) {L : List α} {k : Nat} (h : k < L.length) : (L.map f)[k]? = some (f (L.getD k d)) := by simp [h]
abbrev pOf (s : ByteArray) : Prop := mOK s ∧ (msC s).kd = 2
theorem mss_yes : ∀ {r : List ByteArray}, (∀ s ∈ r, pOf s) → mss r = some (r.map msC)
 | [], _ => rfl
 | s :: r, h => by
  have h1 := h s (List.mem_cons_self ..)
  unfold mss
  rw [if_pos ⟨h1.1.1, h1.1.2, h1.2⟩, mss_yes (fun x hx => h x (List.mem_cons_of_mem _ hx))]; rfl
theorem P6 : ∀ {r : List ByteArray} {s : ByteArray}, s ∈ r → ¬ pOf s → mss r = none
 | x :: r, s, hs, h => by
  unfold mss
  rcases List.mem_cons.1 hs with e | e
  ·rw [if_neg (by rw [← e]; exact fun q => h ⟨⟨q.1, q.2.1⟩, q.2.2⟩)]
  ·rw [P6 e h]; split <;> rfl
noncomputable def ctX (p : ByteArray) : Ct := match ctC p with | some c => c | none => Ct0
def csL (r : List ByteArray) : Nat → List Msg
 | 0 => []
 | i + 1 => csL r i ++ [mX (r.getD i ⟨#[]⟩)]
theorem csL_len (r : List ByteArray) : ∀ i, (csL r i).length = i
 | 0 => rfl
 | i + 1 => by show (csL r i ++ [_]).length = _; rw [List.length_append, csL_len r i]; rfl
theorem csL_tk {r : List ByteArray} : ∀ {i : Nat}, i ≤ r.length → (∀ j, j < i → pOf (r.getD j ⟨#[]⟩)) → csL r i = (r.take i).map msC
 | 0, _, _ => rfl
 | i + 1, h, hp => by
  show csL r i ++ [mX (r.getD i ⟨#[]⟩)] = _
  rw [csL_tk (by omega) (fun j hj => hp j (by omega)), show mX (r.getD i ⟨#[]⟩) = msC _ from if_pos (hp i (by omega)).1, List.take_succ_eq_append_getElem (by omega), List.map_append, show r.getD i ⟨#[]⟩ = r[i] by simp [show i < r.length by omega]]; rfl
theorem pOf_all {r : List ByteArray} (h : ∀ j, j < r.length → pOf (r.getD j ⟨#[]⟩)) : ∀ s ∈ r, pOf s := fun s hs => by
 obtain ⟨i, hi, e⟩ := List.getElem_of_mem hs
 have := h i hi
 rwa [show r.getD i ⟨#[]⟩ = s by simp [hi, e]] at this
theorem J7 {r : List ByteArray} {i : Nat} (h : i < r.length) : r.getD i ⟨#[]⟩ ∈ r := by
 rw [show r.getD i ⟨#[]⟩ = r[i] by simp [h]]; exact List.getElem_mem h
theorem J8 {p : ByteArray} (h : (lsC p).isSome = true) : lsC p = some (lsO p) := by
 unfold lsO
 match e : lsC p with
 | some l => rfl
 | none => rw [e] at h; cases h
theorem X6 {p : ByteArray} (h : lsC p = none) : ctC p = none := by unfold ctC; rw [h]
theorem ct_len {p : ByteArray} {l : List ByteArray} (h : lsC p = some l) (hl : ¬ (1 ≤ l.length ∧ l.length ≤ 8)) : ctC p = none := by
 unfold ctC; rw [h]
 match l with
 | [] => rfl
 | b :: r => show (if r.length ≤ 7 then _ else none) = none; rw [if_neg (by rw [List.length_cons] at hl; omega)]
theorem ct_at {p b : ByteArray} {r : List ByteArray} (h : lsC p = some (b :: r)) (hl : r.length ≤ 7) : ctC p = (mss r).map (Ct.mk b) := by
 unfold ctC; rw [h]; exact if_pos hl
theorem rowsM (L : List Msg) : rowsV (L.map Msg.T) = L.map Msg.V := by unfold rowsV; rw [List.map_map]; rfl
def CB (s : ByteArray) (o : V) : Option Blk := some ⟨[[.str s, o]], 2, 44⟩
structure CS where
 i : Nat
 o : V
 b : Nat
 m : Nat
 g : Heap
structure CI (s : ByteArray) (r : List ByteArray) (a : CS) : Prop where
 il : a.i ≤ r.length
 g0 : a.g 0 = CB ⟨#[]⟩ .nsl
 g1 : a.g 1 = CB s a.o
 out : LsOK Msg.V 7 37 2 (csL r a.i) a.o a.b a.m a.g
 mm : 2 ≤ a.m
 ok : ∀ j, j < a.i → pOf (r.getD j ⟨#[]⟩)
theorem s148 (p : ByteArray) : Pure En 148 [.one (.str p)] [.agg ((ctX p).T false), .one (.bool (ctC p).isSome)] := by
 refine Pure.of_ev (st := [4, 12]) Tryz.func148 rfl kb ?_
 refine C1 (s147 p) rfl rfl rfl ?_
 refine brB ?_ ?_ <;> intro h1_4
 ·refine B0 (L4 _ _ _) rfl j2 ?_ ?_ <;> intro h2_5
  ·refine O4 fun G hG => ?_
   have hG0 : G 0 = CB ⟨#[]⟩ .nsl := by rw [hG]; exact Q0
   unfold CB at hG0
   have hls := J8 h1_4
   have hl8 : 1 ≤ (lsO p).length ∧ (lsO p).length ≤ 8 := by rw [List.length_map] at h2_5; omega
   obtain ⟨s, r, hbr⟩ : ∃ s r, lsO p = s :: r := by
    match e : lsO p with
    | [] => rw [e] at hl8; have := hl8.1; simp at this
    | s :: r => exact ⟨s, r, rfl⟩
   rw [hbr] at hls hl8 ⊢
   have hr7 : r.length ≤ 7 := by rw [List.length_cons] at hl8; omega
   have hat := ct_at hls hr7
   have hz : ∀ c ∈ List.map tT (s :: r), c.length = 1 := fun c hc => by obtain ⟨x, _, rfl⟩ := List.mem_map.1 hc; rfl
   have hll : (List.map tT (s :: r)).length = r.length + 1 := by simp
   have hl2 : (List.take (r.map tT).length (r.map tT)).length = r.length := by simp
   (refine B9 (C5 (by first | rfl | assumption | (first | rfl | (rw [List.take_length]; exact B2 tT ⟨#[]⟩ (k := i) (by omega)))) rfl ?_))
   (apply est (u := .agg [.str _, _]) j3; exact Q0; exact Q2; exact j4; exact kb; rfl)
   (refine esll j5 ?_ ?_ ?_ ?_ ?_; (first | omega | assumption); (first | omega | assumption); (first | omega | assumption); (first | rfl | assumption | (focus (intro c hc; obtain ⟨x, hx, rfl⟩ := List.mem_map.1 hc; rfl)) | simp))
   refine wlG fun g0 hg0 => ?_
   refine B3 (fun (a : CS) => [.unk, .unk, .ptr 0 0 0, .unk, .unk, .unk, .ptr 1 0 0, .unk, .unk, .unk, .unk, .unk, .unk, .unk, .unk, .unk, .unk, .unk, .unk, .unk, .unk, .unk, .unk, .unk, .unk, .unk, .unk, .unk, .unk, .unk, .sl true false (List.take (r.map tT).length (r.map tT)), .int .i64 (List.take (r.map tT).length (r.map tT)).length, .int .i64 a.i]) (fun (a : CS) => a.g) (fun (a : CS) => a.m) (fun (a : CS) => CI s r a) (fun (a : CS) => r.length - a.i) ⟨0, .nsl, 0, 1 + 1, g0⟩ ?_ ?_ ?_ ?_ ?_
   ·refine ⟨Nat.zero_le _, ?_, ?_, .inl ⟨rfl, rfl⟩, by dsimp only; omega, E6⟩
    ·dsimp only; rw [hg0]; exact Q0
    ·dsimp only; rw [hg0]; exact Q0
   ·(repeat first | exact LE.nil _ | refine LE.unk _ _ ?_ | refine LE.eq _ _ _ rfl ?_)
   ·exact LessH.refl _
   ·exact Nat.le_refl _
   intro ⟨i, o, b, m, g⟩ hI ih
   have q0 := hI.il
   have hg0 := hI.g0
   have hg1 := hI.g1
   have q4 := hI.mm
   have hok := hI.ok
   unfold CB at hg0 hg1
   dsimp only at q0 hg0 hg1 q4 hok ⊢
   have hrl := csL_len r i
   rcases hI.out with ⟨e0, e1⟩ | ⟨e1, hbO2, hbO⟩
   all_goals dsimp only at e1
   ·skip
    obtain rfl : i = 0 := by rw [e0] at hrl; exact hrl.symm
    subst e1
    refine A6 (st := [4, 12]) ?_
    refine br ?_ ?_ <;> intro h6_0
    ·(refine B9 (C5 (by first | rfl | assumption | (first | rfl | (rw [List.take_length]; exact B2 tT ⟨#[]⟩ (k := 0) (by omega)))) rfl ?_))
     refine C1 (s218 (r.getD 0 ⟨#[]⟩)) rfl rfl rfl ?_
     refine brB ?_ ?_ <;> intro h8_4
     ·(apply est (u := .agg [.int _ _, .int _ _, .int _ _, .int _ _, .str _, .str _, .str _]) j3; exact Q0; exact Q2; exact j4; exact kb; rfl)
      (apply C3 (vs := [.int _ _, .int _ _, .int _ _, .int _ _, .str _, .str _, .str _]) j2; exact Q0; exact Q2; rfl; exact kb; rfl)
      refine B0 (s219 (mX (r.getD 0 ⟨#[]⟩))) rfl j2 ?_ ?_ <;> intro h9_4
      ·refine A1 ?_ (by exact Q0) (by exact Q2)
       (apply C3 (vs := [.int _ _, .int _ _, .int _ _, .int _ _, .str _, .str _, .str _]) j2; exact Q0; exact Q2; rfl; exact kb; rfl)
       refine F7 (es := [[.int _ _, .int _ _, .int _ _, .int _ _, .str _, .str _, .str _]]) j4 kz kb rfl rfl ?_
       first | (apply eap (s' := 80) (es := [[.int _ _, .int _ _, .int _ _, .int _ _, .str _, .str _, .str _]]) rfl rfl; exact Q0; exact j2; exact Q29; exact j2; exact kz; exact L7; exact Q3; exact Q6; exact Q6) | (apply ean (s' := 80) (es := [[.int _ _, .int _ _, .int _ _, .int _ _, .str _, .str _, .str _]]) rfl j3 kz; exact L7; exact Q3; exact Q6; exact Q6; exact Q6)
       (apply est (u := .view _ _ _) j3; exact Q0; exact Q2; exact j4; exact kb; rfl)
       refine O4 fun G hG => ?_
       refine C0 ?_
       have hpi : pOf (r.getD 0 ⟨#[]⟩) := ⟨of_decide_eq_true h8_4, by rw [show mX (r.getD 0 ⟨#[]⟩) = msC _ from if_pos (of_decide_eq_true h8_4)] at h9_4; exact h9_4.1⟩
       refine C6 (ih ⟨0 + 1, .view (m + 1 + 1) 0 1, m + 1 + 1, m + 1 + 1 + 1, G⟩ ⟨by dsimp only; omega, ?_, ?_, .inr ⟨?_, ?_, by dsimp only; omega, by dsimp only; omega⟩, by dsimp only; omega, fun j hj => ?_⟩ (by dsimp only; omega)) (by (repeat first | exact LE.nil _ | refine LE.unk _ _ ?_ | refine LE.eq _ _ _ rfl ?_)) (LessH.refl _) (Nat.le_refl _)
       ·dsimp only; rw [hG]; exact Q0
       ·dsimp only; rw [hG]; exact Q0
       ·show V.view _ 0 _ = V.view _ 0 (csL r 0 ++ [_]).length; rw [List.length_append]; rfl
       ·dsimp only; rw [hG]; show _ = some (Blk.mk ((csL r 0 ++ [_]).map Msg.V) 7 37); rw [List.map_append]; exact Q0
       ·rcases Nat.lt_succ_iff_lt_or_eq.1 hj with q | q
        ·exact hok j q
        ·rw [q]; exact hpi
      ·(apply est (u := .agg [.str _, _]) j3; exact Q0; exact Q2; exact j4; exact kb; rfl)
       have hno : ctC p = none := by
        rw [hat, P6 (J7 (i := 0) (by omega)) (fun q => ?_)]
        ·rfl
        ·first
         | exact absurd q.1 (of_decide_eq_false h8_4)
         | (rw [show mX (r.getD 0 ⟨#[]⟩) = msC _ from if_pos q.1] at h9_4; exact h9_4 ⟨q.2, q.1.2⟩)
       rw [show ctX p = Ct0 by unfold ctX; rw [hno], hno]
       refine C9 [] (A0 (A3 rfl (by exact Q0) j2 kb rfl) (A0 rfl A2)) ?_
       exact (SnapL.cons _ _ _ _ (SnapC.agg (.cons _ _ _ _ (.str _) (.cons _ _ _ _ .nslW .nil))) (SnapL.cons _ _ _ _ (.one _ _ (.bool _)) SnapL.nil))
     ·(apply est (u := .agg [.int _ _, .int _ _, .int _ _, .int _ _, .str _, .str _, .str _]) j3; exact Q0; exact Q2; exact j4; exact kb; rfl)
      (apply est (u := .agg [.str _, _]) j3; exact Q0; exact Q2; exact j4; exact kb; rfl)
      have hno : ctC p = none := by
       rw [hat, P6 (J7 (i := 0) (by omega)) (fun q => ?_)]
       ·rfl
       ·first
        | exact absurd q.1 (of_decide_eq_false h8_4)
        | (rw [show mX (r.getD 0 ⟨#[]⟩) = msC _ from if_pos q.1] at h9_4; exact h9_4 ⟨q.2, q.1.2⟩)
      rw [show ctX p = Ct0 by unfold ctX; rw [hno], hno]
      refine C9 [] (A0 (A3 rfl (by exact Q0) j2 kb rfl) (A0 rfl A2)) ?_
      exact (SnapL.cons _ _ _ _ (SnapC.agg (.cons _ _ _ _ (.str _) (.cons _ _ _ _ .nslW .nil))) (SnapL.cons _ _ _ _ (.one _ _ (.bool _)) SnapL.nil))
    ·(apply C3 (vs := [.str _, _]) j2; exact Q0; exact Q2; rfl; exact kb; rfl)
     (apply est (u := .agg [.str _, _]) j3; exact Q0; exact Q2; exact j4; exact kb; rfl)
     have hyes : ctC p = some ⟨s, csL r 0⟩ := by
      have e0 : r = [] := List.length_eq_zero_iff.1 (by omega)
      rw [hat, e0]; rfl
     rw [show ctX p = ⟨s, csL r 0⟩ by unfold ctX; rw [hyes], hyes]
     refine C9 [] (A0 (A3 rfl (by exact Q0) j2 kb rfl) (A0 rfl A2)) ?_
     exact (SnapL.cons _ _ _ _ (SnapC.agg (.cons _ _ _ _ (.str _) (.cons _ _ _ _ .nslW .nil))) (SnapL.cons _ _ _ _ (.one _ _ (.bool _)) SnapL.nil))
   ·skip
    dsimp only at hbO2 hbO
    subst e1
    refine A6 (st := [4, 12]) ?_
    refine br ?_ ?_ <;> intro h6_0
    ·(refine B9 (C5 (by first | rfl | assumption | (first | rfl | (rw [List.take_length]; exact B2 tT ⟨#[]⟩ (k := i) (by omega)))) rfl ?_))
     refine C1 (s218 (r.getD i ⟨#[]⟩)) rfl rfl rfl ?_
     refine brB ?_ ?_ <;> intro h8_4
     ·(apply est (u := .agg [.int _ _, .int _ _, .int _ _, .int _ _, .str _, .str _, .str _]) j3; exact Q0; exact Q2; exact j4; exact kb; rfl)
      (apply C3 (vs := [.int _ _, .int _ _, .int _ _, .int _ _, .str _, .str _, .str _]) j2; exact Q0; exact Q2; rfl; exact kb; rfl)
      refine B0 (s219 (mX (r.getD i ⟨#[]⟩))) rfl j2 ?_ ?_ <;> intro h9_4
      ·refine A1 ?_ (by exact Q0) (by exact Q2)
       (apply C3 (vs := [.int _ _, .int _ _, .int _ _, .int _ _, .str _, .str _, .str _]) j2; exact Q0; exact Q2; rfl; exact kb; rfl)
       refine F7 (es := [[.int _ _, .int _ _, .int _ _, .int _ _, .str _, .str _, .str _]]) j4 kz kb rfl rfl ?_
       first | (apply eap (s' := 80) (es := [[.int _ _, .int _ _, .int _ _, .int _ _, .str _, .str _, .str _]]) rfl rfl; exact Q0; exact j2; exact Q29; exact j2; exact kz; exact L7; exact Q3; exact Q6; exact Q6) | (apply ean (s' := 80) (es := [[.int _ _, .int _ _, .int _ _, .int _ _, .str _, .str _, .str _]]) rfl j3 kz; exact L7; exact Q3; exact Q6; exact Q6; exact Q6)
       (apply est (u := .view _ _ _) j3; exact Q0; exact Q2; exact j4; exact kb; rfl)
       refine O4 fun G hG => ?_
       refine C0 ?_
       have hpi : pOf (r.getD i ⟨#[]⟩) := ⟨of_decide_eq_true h8_4, by rw [show mX (r.getD i ⟨#[]⟩) = msC _ from if_pos (of_decide_eq_true h8_4)] at h9_4; exact h9_4.1⟩
       refine C6 (ih ⟨i + 1, .view (m + 1 + 1) 0 ((csL r i).length + 1), m + 1 + 1, m + 1 + 1 + 1, G⟩ ⟨by dsimp only; omega, ?_, ?_, .inr ⟨?_, ?_, by dsimp only; omega, by dsimp only; omega⟩, by dsimp only; omega, fun j hj => ?_⟩ (by dsimp only; omega)) (by (repeat first | exact LE.nil _ | refine LE.unk _ _ ?_ | refine LE.eq _ _ _ rfl ?_)) (LessH.refl _) (Nat.le_refl _)
       ·dsimp only; rw [hG]; exact Q0
       ·dsimp only; rw [hG]; exact Q0
       ·show V.view _ 0 _ = V.view _ 0 (csL r i ++ [_]).length; rw [List.length_append]; rfl
       ·dsimp only; rw [hG]; show _ = some (Blk.mk ((csL r i ++ [_]).map Msg.V) 7 37); rw [List.map_append]; exact Q0
       ·rcases Nat.lt_succ_iff_lt_or_eq.1 hj with q | q
        ·exact hok j q
        ·rw [q]; exact hpi
      ·(apply est (u := .agg [.str _, _]) j3; exact Q0; exact Q2; exact j4; exact kb; rfl)
       have hno : ctC p = none := by
        rw [hat, P6 (J7 (i := i) (by omega)) (fun q => ?_)]
        ·rfl
        ·first
         | exact absurd q.1 (of_decide_eq_false h8_4)
         | (rw [show mX (r.getD i ⟨#[]⟩) = msC _ from if_pos q.1] at h9_4; exact h9_4 ⟨q.2, q.1.2⟩)
       rw [show ctX p = Ct0 by unfold ctX; rw [hno], hno]
       refine C9 [] (A0 (A3 rfl (by exact Q0) j2 kb rfl) (A0 rfl A2)) ?_
       exact (SnapL.cons _ _ _ _ (SnapC.agg (.cons _ _ _ _ (.str _) (.cons _ _ _ _ .nslW .nil))) (SnapL.cons _ _ _ _ (.one _ _ (.bool _)) SnapL.nil))
     ·(apply est (u := .agg [.int _ _, .int _ _, .int _ _, .int _ _, .str _, .str _, .str _]) j3; exact Q0; exact Q2; exact j4; exact kb; rfl)
      (apply est (u := .agg [.str _, _]) j3; exact Q0; exact Q2; exact j4; exact kb; rfl)
      have hno : ctC p = none := by
       rw [hat, P6 (J7 (i := i) (by omega)) (fun q => ?_)]
       ·rfl
       ·first
        | exact absurd q.1 (of_decide_eq_false h8_4)
        | (rw [show mX (r.getD i ⟨#[]⟩) = msC _ from if_pos q.1] at h9_4; exact h9_4 ⟨q.2, q.1.2⟩)
      rw [show ctX p = Ct0 by unfold ctX; rw [hno], hno]
      refine C9 [] (A0 (A3 rfl (by exact Q0) j2 kb rfl) (A0 rfl A2)) ?_
      exact (SnapL.cons _ _ _ _ (SnapC.agg (.cons _ _ _ _ (.str _) (.cons _ _ _ _ .nslW .nil))) (SnapL.cons _ _ _ _ (.one _ _ (.bool _)) SnapL.nil))
    ·(apply C3 (vs := [.str _, _]) j2; exact Q0; exact Q2; rfl; exact kb; rfl)
     (apply est (u := .agg [.str _, _]) j3; exact Q0; exact Q2; exact j4; exact kb; rfl)
     have hyes : ctC p = some ⟨s, csL r i⟩ := by
      obtain rfl : i = r.length := by omega
      rw [hat, mss_yes (pOf_all hok), csL_tk (Nat.le_refl _) hok, List.take_length]; rfl
     rw [show ctX p = ⟨s, csL r i⟩ by unfold ctX; rw [hyes], hyes]
     refine C9 [b] (A0 (A3 rfl (by exact Q0) j2 kb rfl) (A0 rfl A2)) ?_
     exact (SnapL.cons _ _ _ _ (SnapC.agg (.cons _ _ _ _ (.str _) (.cons _ _ _ _ (.weak _ _ (B5 (b := ⟨(csL r i).map Msg.V, 7, 37⟩) ((csL r i).map Msg.T) (List.mem_singleton.2 rfl) (by exact Q0) (rowsM _).symm (List.length_map ..).symm)) .nil))) (SnapL.cons _ _ _ _ (.one _ _ (.bool _)) SnapL.nil))
  ·(apply est (u := .agg [.str _, _]) j3; exact Q0; exact Q2; exact j4; exact kb; rfl)
   have hno : ctC p = none := by
    first
    | exact ct_len (J8 h1_4) (by rw [List.length_map] at h2_5; omega)
    | exact X6 (by match e : lsC p with | none => rfl | some l => rw [e] at h1_4; cases h1_4)
   rw [show ctX p = Ct0 by unfold ctX; rw [hno], hno]
   refine C9 [] (A0 (A3 rfl (by exact Q0) j2 kb rfl) (A0 rfl A2)) ?_
   exact (SnapL.cons _ _ _ _ (SnapC.agg (.cons _ _ _ _ (.str _) (.cons _ _ _ _ .nslW .nil))) (SnapL.cons _ _ _ _ (.one _ _ (.bool _)) SnapL.nil))
 ·(apply est (u := .agg [.str _, _]) j3; exact Q0; exact Q2; exact j4; exact kb; rfl)
  have hno : ctC p = none := by
   first
   | exact ct_len (J8 h1_4) (by rw [List.length_map] at h2_5; omega)
   | exact X6 (by match e : lsC p with | none => rfl | some l => rw [e] at h1_4; cases h1_4)
  rw [show ctX p = Ct0 by unfold ctX; rw [hno], hno]
  refine C9 [] (A0 (A3 rfl (by exact Q0) j2 kb rfl) (A0 rfl A2)) ?_
  exact (SnapL.cons _ _ _ _ (SnapC.agg (.cons _ _ _ _ (.str _) (.cons _ _ _ _ .nslW .nil))) (SnapL.cons _ _ _ _ (.one _ _ (.bool _)) SnapL.nil))
open Go.V
set_option linter.unusedVariables false
set_option linter.unusedSimpArgs false
set_option maxRecDepth 20000
set_option maxHeartbeats 4000000
theorem O3 (a b c : Int) : Pure En 58 [.one (.int .i64 a), .one (.int .i64 b), .one (.int .i64 c)] [.one (.bool (decide (b ≤ a ∧ a ≤ c)))] := by
 refine Pure.of_ev (st := []) Tryz.func58 rfl kb ?_
 refine br ?_ ?_ <;> intro h1_2
 ·refine br ?_ ?_ <;> intro h1_6
  ·first | (refine B7 rfl ?_; omega) | (refine A7 rfl ?_; omega)
  ·first | (refine B7 rfl ?_; omega) | (refine A7 rfl ?_; omega)
 ·first | (refine B7 rfl ?_; omega) | (refine A7 rfl ?_; omega)
theorem s115 (a : Int) : Pure En 315 [.one (.int .u8 a)] [.one (.bool (decide (letter a)))] := by
 refine Pure.of_ev (st := []) Tryz.func315 rfl kb ?_
 refine br ?_ ?_ <;> intro h1_1
 ·refine br ?_ ?_ <;> intro h1_4
  ·first | (refine B7 rfl ?_; unfold letter; omega) | (refine A7 rfl ?_; unfold letter; omega)
  ·refine br ?_ ?_ <;> intro h1_8
   ·refine br ?_ ?_ <;> intro h1_11
    ·first | (refine B7 rfl ?_; unfold letter; omega) | (refine A7 rfl ?_; unfold letter; omega)
    ·refine br ?_ ?_ <;> intro h1_16
     ·first | (refine B7 rfl ?_; unfold letter; omega) | (refine A7 rfl ?_; unfold letter; omega)
     ·first | (refine B7 rfl ?_; unfold letter; omega) | (refine A7 rfl ?_; unfold letter; omega)
   ·refine br ?_ ?_ <;> intro h1_16
    ·first | (refine B7 rfl ?_; unfold letter; omega) | (refine A7 rfl ?_; unfold letter; omega)
    ·first | (refine B7 rfl ?_; unfold letter; omega) | (refine A7 rfl ?_; unfold letter; omega)
 ·refine br ?_ ?_ <;> intro h1_8
  ·refine br ?_ ?_ <;> intro h1_11
   ·first | (refine B7 rfl ?_; unfold letter; omega) | (refine A7 rfl ?_; unfold letter; omega)
   ·refine br ?_ ?_ <;> intro h1_16
    ·first | (refine B7 rfl ?_; unfold letter; omega) | (refine A7 rfl ?_; unfold letter; omega)
    ·first | (refine B7 rfl ?_; unfold letter; omega) | (refine A7 rfl ?_; unfold letter; omega)
  ·refine br ?_ ?_ <;> intro h1_16
   ·first | (refine B7 rfl ?_; unfold letter; omega) | (refine A7 rfl ?_; unfold letter; omega)
   ·first | (refine B7 rfl ?_; unfold letter; omega) | (refine A7 rfl ?_; unfold letter; omega)
theorem s116 (a : Int) : Pure En 316 [.one (.int .u8 a)] [.one (.bool (decide (digit a)))] := by
 refine Pure.of_ev (st := []) Tryz.func316 rfl kb ?_
 refine br ?_ ?_ <;> intro h1_1
 ·refine br ?_ ?_ <;> intro h1_4
  ·first | (refine B7 rfl ?_; unfold digit; omega) | (refine A7 rfl ?_; unfold digit; omega)
  ·first | (refine B7 rfl ?_; unfold digit; omega) | (refine A7 rfl ?_; unfold digit; omega)
 ·first | (refine B7 rfl ?_; unfold digit; omega) | (refine A7 rfl ?_; unfold digit; omega)
theorem s102 (s : ByteArray) : Pure En 300 [.one (.str s)] [.one (.bool (decide (word s)))] := by
 refine Pure.of_ev (st := []) Tryz.func300 rfl kb ?_
 refine br ?_ ?_ <;> intro h1_2
 ·first
   | exact B7 rfl ⟨by omega, by omega, by assumption, fun j hj => hI.2.2 j (by omega)⟩
   | (refine A7 rfl fun hw => ?_; obtain ⟨w1, w2, w3, w4⟩ := hw; first | omega | exact h1_11 w3 | exact (w4 i (by omega)).elim h6_3 h6_9)
 ·refine br ?_ ?_ <;> intro h1_6
  ·first
    | exact B7 rfl ⟨by omega, by omega, by assumption, fun j hj => hI.2.2 j (by omega)⟩
    | (refine A7 rfl fun hw => ?_; obtain ⟨w1, w2, w3, w4⟩ := hw; first | omega | exact h1_11 w3 | exact (w4 i (by omega)).elim h6_3 h6_9)
  ·refine lit 0 rfl (B9 ?_)
   refine B0 (s115 _) rfl j2 ?_ ?_ <;> intro h1_11
   ·refine C4 (fun (i : Nat) => [.str s, .unk, .unk, .int .i64 i]) (fun (i : Nat) => 1 ≤ i ∧ i ≤ s.size ∧ ∀ j, j < i → letter (bt s j) ∨ digit (bt s j)) (fun (i : Nat) => s.size - i) 1 ?_ ?_ ?_
    ·exact ⟨by omega, by omega, C8 E6 (.inl h1_11)⟩
    ·(repeat first | exact LE.nil _ | refine LE.unk _ _ ?_ | refine LE.eq _ _ _ rfl ?_)
    intro i hI ih
    refine A6 (st := []) ?_
    refine br ?_ ?_ <;> intro h4_3
    ·refine B9 ?_
     refine B0 (s115 _) rfl j2 ?_ ?_ <;> intro h6_3
     ·refine C0 ?_
      exact N4 (ih (i + 1) ⟨by omega, by omega, C8 hI.2.2 (by first | exact .inl h6_3 | exact .inr h6_9)⟩ (by omega)) (by (repeat first | exact LE.nil _ | refine LE.unk _ _ ?_ | refine LE.eq _ _ _ rfl ?_))
     ·refine B9 ?_
      refine B0 (s116 _) rfl j2 ?_ ?_ <;> intro h6_9
      ·refine C0 ?_
       exact N4 (ih (i + 1) ⟨by omega, by omega, C8 hI.2.2 (by first | exact .inl h6_3 | exact .inr h6_9)⟩ (by omega)) (by (repeat first | exact LE.nil _ | refine LE.unk _ _ ?_ | refine LE.eq _ _ _ rfl ?_))
      ·first
        | exact B7 rfl ⟨by omega, by omega, by assumption, fun j hj => hI.2.2 j (by omega)⟩
        | (refine A7 rfl fun hw => ?_; obtain ⟨w1, w2, w3, w4⟩ := hw; first | omega | exact h1_11 w3 | exact (w4 i (by omega)).elim h6_3 h6_9)
    ·first
      | exact B7 rfl ⟨by omega, by omega, by assumption, fun j hj => hI.2.2 j (by omega)⟩
      | (refine A7 rfl fun hw => ?_; obtain ⟨w1, w2, w3, w4⟩ := hw; first | omega | exact h1_11 w3 | exact (w4 i (by omega)).elim h6_3 h6_9)
   ·first
     | exact B7 rfl ⟨by omega, by omega, by assumption, fun j hj => hI.2.2 j (by omega)⟩
     | (refine A7 rfl fun hw => ?_; obtain ⟨w1, w2, w3, w4⟩ := hw; first | omega | exact h1_11 w3 | exact (w4 i (by omega)).elim h6_3 h6_9)
theorem s90 (s : ByteArray) : Pure En 255 [.one (.str s)] [.one (.bool (decide (word s)))] := by
 refine Pure.of_ev (st := []) Tryz.func255 rfl kb ?_
 refine B0 (s102 _) rfl j2 ?_ ?_ <;> intro h1_1
 ·first | exact B7 rfl (by assumption) | exact A7 rfl (by assumption)
 ·first | exact B7 rfl (by assumption) | exact A7 rfl (by assumption)
theorem s76 (s : ByteArray) (n : Int) : Pure En 194 [.one (.str s), .one (.int .i64 n)] [.one (.bool (decide (s.size ≤ n ∧ word s)))] := by
 refine Pure.of_ev (st := []) Tryz.func194 rfl kb ?_
 refine B0 (O3 _ _ _) rfl j2 ?_ ?_ <;> intro h1_3
 ·refine B0 (s90 _) rfl j2 ?_ ?_ <;> intro h1_6
  ·first | exact B7 rfl ⟨by omega, by assumption⟩ | (refine A7 rfl fun hw => ?_; obtain ⟨w1, w2⟩ := hw; first | exact h1_6 w2 | (have := w2.1; omega))
  ·first | exact B7 rfl ⟨by omega, by assumption⟩ | (refine A7 rfl fun hw => ?_; obtain ⟨w1, w2⟩ := hw; first | exact h1_6 w2 | (have := w2.1; omega))
 ·first | exact B7 rfl ⟨by omega, by assumption⟩ | (refine A7 rfl fun hw => ?_; obtain ⟨w1, w2⟩ := hw; first | exact h1_6 w2 | (have := w2.1; omega))
theorem s52 (r : Rq) : Pure En 128 [.agg r.T] [.one (.bool (decide r.OK))] := by
 refine Pure.of_ev (st := []) Tryz.func128 rfl kb ?_
 refine A1 ?_
 refine B0 (O3 _ _ _) rfl j2 ?_ ?_ <;> intro h1_2
 ·refine A1 ?_
  refine B0 (O3 _ _ _) rfl j2 ?_ ?_ <;> intro h1_6
  ·refine A1 ?_
   refine B0 (O3 _ _ _) rfl j2 ?_ ?_ <;> intro h1_11
   ·refine A1 ?_
    refine B0 (O3 _ _ _) rfl j2 ?_ ?_ <;> intro h1_16
    ·refine A1 ?_
     refine B0 (s76 _ _) rfl j2 ?_ ?_ <;> intro h1_21
     ·refine A1 ?_
      refine br ?_ ?_ <;> intro h1_26
      ·refine A1 ?_
       refine br ?_ ?_ <;> intro h1_29
       ·first
         | exact B7 rfl ⟨by omega, by omega, by omega, by omega, ⟨by omega, h1_21.2⟩, by omega⟩
         | (refine A7 rfl fun hw => ?_; obtain ⟨w1, w2, w3, w4, w5, w6⟩ := hw; first | omega | exact h1_21 ⟨by have := w5.1; omega, w5.2⟩)
       ·refine A1 ?_
        refine br ?_ ?_ <;> intro h1_33
        ·first
          | exact B7 rfl ⟨by omega, by omega, by omega, by omega, ⟨by omega, h1_21.2⟩, by omega⟩
          | (refine A7 rfl fun hw => ?_; obtain ⟨w1, w2, w3, w4, w5, w6⟩ := hw; first | omega | exact h1_21 ⟨by have := w5.1; omega, w5.2⟩)
        ·first
          | exact B7 rfl ⟨by omega, by omega, by omega, by omega, ⟨by omega, h1_21.2⟩, by omega⟩
          | (refine A7 rfl fun hw => ?_; obtain ⟨w1, w2, w3, w4, w5, w6⟩ := hw; first | omega | exact h1_21 ⟨by have := w5.1; omega, w5.2⟩)
      ·refine A1 ?_
       refine br ?_ ?_ <;> intro h1_29
       ·first
         | exact B7 rfl ⟨by omega, by omega, by omega, by omega, ⟨by omega, h1_21.2⟩, by omega⟩
         | (refine A7 rfl fun hw => ?_; obtain ⟨w1, w2, w3, w4, w5, w6⟩ := hw; first | omega | exact h1_21 ⟨by have := w5.1; omega, w5.2⟩)
       ·refine A1 ?_
        refine br ?_ ?_ <;> intro h1_33
        ·first
          | exact B7 rfl ⟨by omega, by omega, by omega, by omega, ⟨by omega, h1_21.2⟩, by omega⟩
          | (refine A7 rfl fun hw => ?_; obtain ⟨w1, w2, w3, w4, w5, w6⟩ := hw; first | omega | exact h1_21 ⟨by have := w5.1; omega, w5.2⟩)
        ·first
          | exact B7 rfl ⟨by omega, by omega, by omega, by omega, ⟨by omega, h1_21.2⟩, by omega⟩
          | (refine A7 rfl fun hw => ?_; obtain ⟨w1, w2, w3, w4, w5, w6⟩ := hw; first | omega | exact h1_21 ⟨by have := w5.1; omega, w5.2⟩)
     ·first
       | exact B7 rfl ⟨by omega, by omega, by omega, by omega, ⟨by omega, h1_21.2⟩, by omega⟩
       | (refine A7 rfl fun hw => ?_; obtain ⟨w1, w2, w3, w4, w5, w6⟩ := hw; first | omega | exact h1_21 ⟨by have := w5.1; omega, w5.2⟩)
    ·first
      | exact B7 rfl ⟨by omega, by omega, by omega, by omega, ⟨by omega, h1_21.2⟩, by omega⟩
      | (refine A7 rfl fun hw => ?_; obtain ⟨w1, w2, w3, w4, w5, w6⟩ := hw; first | omega | exact h1_21 ⟨by have := w5.1; omega, w5.2⟩)
   ·first
     | exact B7 rfl ⟨by omega, by omega, by omega, by omega, ⟨by omega, h1_21.2⟩, by omega⟩
     | (refine A7 rfl fun hw => ?_; obtain ⟨w1, w2, w3, w4, w5, w6⟩ := hw; first | omega | exact h1_21 ⟨by have := w5.1; omega, w5.2⟩)
  ·first
    | exact B7 rfl ⟨by omega, by omega, by omega, by omega, ⟨by omega, h1_21.2⟩, by omega⟩
    | (refine A7 rfl fun hw => ?_; obtain ⟨w1, w2, w3, w4, w5, w6⟩ := hw; first | omega | exact h1_21 ⟨by have := w5.1; omega, w5.2⟩)
 ·first
   | exact B7 rfl ⟨by omega, by omega, by omega, by omega, ⟨by omega, h1_21.2⟩, by omega⟩
   | (refine A7 rfl fun hw => ?_; obtain ⟨w1, w2, w3, w4, w5, w6⟩ := hw; first | omega | exact h1_21 ⟨by have := w5.1; omega, w5.2⟩)
theorem s49 (n : Int) : Pure En 57 [.one (.int .i64 n)] [.one (.bool (decide (nodes n)))] := by
 refine Pure.of_ev (st := []) Tryz.func57 rfl kb ?_
 refine br ?_ ?_ <;> intro h1_1
 ·first | (refine B7 rfl ?_; unfold nodes; omega) | (refine A7 rfl ?_; unfold nodes; omega)
 ·refine br ?_ ?_ <;> intro h1_4
  ·first | (refine B7 rfl ?_; unfold nodes; omega) | (refine A7 rfl ?_; unfold nodes; omega)
  ·refine br ?_ ?_ <;> intro h1_8
   ·first | (refine B7 rfl ?_; unfold nodes; omega) | (refine A7 rfl ?_; unfold nodes; omega)
   ·first | (refine B7 rfl ?_; unfold nodes; omega) | (refine A7 rfl ?_; unfold nodes; omega)
theorem s51 (a : An) : Pure En 195 [.agg a.T] [.one (.bool (decide a.OK))] := by
 refine Pure.of_ev (st := []) Tryz.func195 rfl kb ?_
 refine A1 ?_
 refine B0 (O3 _ _ _) rfl j2 ?_ ?_ <;> intro h1_2
 ·refine A1 ?_
  refine B0 (O3 _ _ _) rfl j2 ?_ ?_ <;> intro h1_6
  ·refine A1 ?_
   refine B0 (O3 _ _ _) rfl j2 ?_ ?_ <;> intro h1_11
   ·refine A1 ?_
    refine B0 (O3 _ _ _) rfl j2 ?_ ?_ <;> intro h1_16
    ·first | (refine B7 rfl ?_; unfold An.OK; omega) | (refine A7 rfl ?_; unfold An.OK; omega)
    ·first | (refine B7 rfl ?_; unfold An.OK; omega) | (refine A7 rfl ?_; unfold An.OK; omega)
   ·first | (refine B7 rfl ?_; unfold An.OK; omega) | (refine A7 rfl ?_; unfold An.OK; omega)
  ·first | (refine B7 rfl ?_; unfold An.OK; omega) | (refine A7 rfl ?_; unfold An.OK; omega)
 ·first | (refine B7 rfl ?_; unfold An.OK; omega) | (refine A7 rfl ?_; unfold An.OK; omega)
theorem s77 (r : Rp) : Pure En 256 [.agg r.T] [.one (.bool (decide r.ok))] := by
 refine Pure.of_ev (st := []) Tryz.func256 rfl kb ?_
 refine A1 ?_
 refine B0 (O3 _ _ _) rfl j2 ?_ ?_ <;> intro h1_2
 ·refine A1 ?_
  refine B0 (O3 _ _ _) rfl j2 ?_ ?_ <;> intro h1_6
  ·refine A1 ?_
   refine B0 (O3 _ _ _) rfl j2 ?_ ?_ <;> intro h1_11
   ·(apply C3 (vs := [.int _ _, .int _ _, .int _ _, .int _ _]) j2; exact Q0; rfl; rfl; exact kb; rfl)
    refine B0 (s51 r.an) rfl j2 ?_ ?_ <;> intro h1_16
    ·first | exact B7 rfl ⟨by assumption, by assumption, by assumption, by assumption⟩ | (refine A7 rfl fun hw => ?_; obtain ⟨w1, w2, w3, w4⟩ := hw; first | contradiction | omega)
    ·first | exact B7 rfl ⟨by assumption, by assumption, by assumption, by assumption⟩ | (refine A7 rfl fun hw => ?_; obtain ⟨w1, w2, w3, w4⟩ := hw; first | contradiction | omega)
   ·first | exact B7 rfl ⟨by assumption, by assumption, by assumption, by assumption⟩ | (refine A7 rfl fun hw => ?_; obtain ⟨w1, w2, w3, w4⟩ := hw; first | contradiction | omega)
  ·first | exact B7 rfl ⟨by assumption, by assumption, by assumption, by assumption⟩ | (refine A7 rfl fun hw => ?_; obtain ⟨w1, w2, w3, w4⟩ := hw; first | contradiction | omega)
 ·first | exact B7 rfl ⟨by assumption, by assumption, by assumption, by assumption⟩ | (refine A7 rfl fun hw => ?_; obtain ⟨w1, w2, w3, w4⟩ := hw; first | contradiction | omega)
theorem snapB {h : Heap} {ids : List Nat} {r : Bool} {id m : Nat} {B : List Int} (hid : id ∈ ids) (hb : h id = some ⟨B.map bV, 1, 5⟩) (hm : m = B.length) : Snap h ids r (.view id 0 m) (.sl true (B.map bT)) :=
 B5 (B.map bT) hid hb (P0 true B).symm (by rw [List.length_map]; exact hm)
theorem V9 (x : Int) (m : Nat) : ∀ j, (topL x m j).length = j
 | 0 => rfl
 | j + 1 => by rw [show topL x m (j + 1) = topL x m j ++ [bt8 x ((m : Int) - 1 - (j : Int))] from rfl, List.length_append, V9 x m j]; rfl
theorem s105 (x : Int) (m : Nat) (hm : m ≤ 8) : Pure En 213 [.one (.int .i64 x), .one (.int .i64 m)] [.one (.sl true ((numL x m).map bT))] := by
 have hl := V9 x m
 refine Pure.of_ev (st := []) Tryz.func213 rfl kb ?_
 refine F7 (es := []) j4 kz kb rfl rfl ?_
 refine D3 ⟨by exact Q9, by exact Q9⟩ ?_
 refine B3 (fun (a : Int × Nat × Nat × Nat) => [.int .i64 x, .unk, .unk, .unk, .unk, .view a.2.2.1 0 a.2.1, .int .i64 a.1]) (fun (a : Int × Nat × Nat × Nat) => hp [(a.2.2.1, ⟨(topL x m ((m : Int) - 1 - a.1).toNat).map bV, 1, 5⟩)]) (fun (a : Int × Nat × Nat × Nat) => a.2.2.2) (fun (a : Int × Nat × Nat × Nat) => (-1 ≤ a.1 ∧ a.1 ≤ (m : Int) - 1) ∧ a.2.2.1 < a.2.2.2 ∧ a.2.1 = ((m : Int) - 1 - a.1).toNat) (fun (a : Int × Nat × Nat × Nat) => (a.1 + 1).toNat) ((m : Int) - 1, 0, 0, 1) ?_ ?_ ?_ ?_ ?_
 ·exact ⟨by dsimp only; omega, by dsimp only; omega, by dsimp only; omega⟩
 ·(repeat first | exact LE.nil _ | refine LE.unk _ _ ?_ | refine LE.eq _ _ _ rfl ?_)
 ·dsimp only
  (repeat first | exact A5 | (refine A4 ?_ ?_; (first | exact Q0 | (first | (focus (((simp (disch := omega) only [app, upd, hp, if_pos, if_neg])); exact congrArg (fun z => some (Blk.mk (List.map bV z) 1 5)) (show [] = topL x m _ by rw [show ((m : Int) - 1 - ((m : Int) - 1)).toNat = 0 by omega]; rfl)))))))
 ·exact Nat.le_refl _
 intro ⟨i, ln, id, n1⟩ hI ih
 dsimp only at hI ⊢
 refine A6 (st := []) ?_
 refine br ?_ ?_ <;> intro h3_1
 ·refine D3 ⟨by exact Q9, by exact Q9⟩ ?_
  refine sd (by exact Q9) ?_
  refine F7 (es := [[.int _ _]]) j4 kz kb rfl rfl ?_
  (apply eap (s' := 1) (es := [[.int _ _]]) rfl rfl; exact Q0; exact j2; (first | rfl | omega | (rw [List.length_map, hl]; omega) | (rw [List.length_map]; omega)); exact j2; exact kz; exact L7; exact Q3; (first | omega | (focus (simp only [List.length_cons, List.length_nil]; omega)) | exact Nat.le_of_ble_eq_true rfl | ((show (_ + 1) * _ ≤ _); omega) | ((show _ + 1 ≤ _); omega)); (first | omega | (focus (simp only [List.length_cons, List.length_nil]; omega)) | exact Nat.le_of_ble_eq_true rfl | ((show (_ + 1) * _ ≤ _); omega) | ((show _ + 1 ≤ _); omega)))
  refine D3 ⟨by exact Q9, by exact Q9⟩ ?_
  have hk : ((m : Int) - 1 - (i - 1)).toNat = ((m : Int) - 1 - i).toNat + 1 := by omega
  have hi7 : (m : Int) - 1 - ((((m : Int) - 1 - i).toNat : Nat) : Int) = i := by omega
  have e2 : (topL x m ((m : Int) - 1 - i).toNat).map bV ++ [[.int .u8 (bt8 x i)]] = (topL x m ((m : Int) - 1 - (i - 1)).toNat).map bV := by
   rw [hk, show topL x m (((m : Int) - 1 - i).toNat + 1) = topL x m ((m : Int) - 1 - i).toNat ++ [bt8 x ((m : Int) - 1 - ((((m : Int) - 1 - i).toNat : Nat) : Int))] from rfl, hi7, List.map_append]; rfl
  exact C6 (ih (i - 1, ln + 1, n1 + 1, n1 + 2) ⟨by dsimp only; omega, by dsimp only; omega, by dsimp only; omega⟩ (by dsimp only; omega)) (by (repeat first | exact LE.nil _ | refine LE.unk _ _ ?_ | refine LE.eq _ _ _ rfl ?_)) (by dsimp only; (repeat first | exact A5 | (refine A4 ?_ ?_; (first | exact Q0 | (first | (focus (((simp (disch := omega) only [app, upd, hp, if_pos, if_neg])); exact congrArg (fun z => some (Blk.mk z 1 5)) e2))))))) (Nat.le_refl _)
 ·have e3 : topL x m ((m : Int) - 1 - i).toNat = numL x m := by rw [L8 m hm, show ((m : Int) - 1 - i).toNat = m by omega]
  rw [e3] at *; refine C9 (xs := [.view id 0 ln]) [id] rfl (.cons _ _ _ _ (.one _ _ (snapB (List.mem_singleton.2 rfl) ?_ ?_)) .nil)
  ·exact Q0
  ·rw [C2]; omega
open Go.V
set_option linter.unusedVariables false
set_option linter.unusedSimpArgs false
set_option maxRecDepth 20000
set_option maxHeartbeats 4000000
theorem snapS {h : Heap} {ids : List Nat} {r : Bool} {id m : Nat} {s : ByteArray} (hid : id ∈ ids) (hb : h id = some ⟨s.data.toList.map fun b => [V.int .u8 (b.toNat : Int)], 1, 5⟩) (hm : m = s.size) : Snap h ids r (.view id 0 m) (.sl true ((byt s).map bT)) :=
 snapB hid (hb.trans (by rw [I6])) (hm.trans (E3 s).symm)
theorem AB (x : Int) : numL x 1 = [IntKind.u8.wrap x] := by
 rw [L8 1 (by decide), show topL x 1 1 = [bt8 x 0] from rfl, Y5]
theorem Hs_eq (t : ByteArray) : Hs t = sha t := by with_unfolding_all rfl
theorem s103s (nn : Bool) (s : ByteArray) (h : s.size ≤ 1000000) : Pure En 226 [.one (.sl nn ((byt s).map bT))] [.one (.str (Hs s))] := by
 have := s103 nn (byt s) (by rw [E3]; exact h) (T5 s)
 rw [T6] at this; rw [Hs_eq]; exact this
theorem S9 (x : Int) (m : Nat) : Nm x m = strOw (numL x m) := by with_unfolding_all rfl
theorem s104 (id : Int) : Pure En 230 [.one (.int .i64 id)] [.one (.str (Hs (lit1 ++ Nm id 1)))] := by
 refine Pure.of_ev (st := []) Tryz.func230 rfl kb ?_
 refine F7 (es := [[.int _ _]]) j4 kz kb rfl rfl ?_
 (apply esg j4; (apply I7 rfl; exact Q0; (first | exact Nat.le_refl _ | omega | (simp; omega)); rfl); (intro s e; cases e); exact (show _ = List.map (fun b => [V.int .u8 b]) [IntKind.u8.wrap id] from rfl))
 refine sd (by (first | omega | assumption | (focus (simp; omega)) | (rw [D4]; show (8 : Nat) + 1 ≤ _; omega))) ?_
 refine ebt j5 ?_
 apply eclS [1] (s103s true (lit1 ++ strOw [IntKind.u8.wrap id]) (by rw [ByteArray.size_append, D4]; show 8 + 1 ≤ _; omega)) rfl rfl rfl
 ·refine SnapL.cons _ _ _ _ (.one _ _ (snapS (List.mem_singleton.2 rfl) ?_ rfl)) SnapL.nil
  exact Q0
 rw [S9, AB]; exact B4 rfl rfl
theorem byt_app (a b : ByteArray) : byt (a ++ b) = byt a ++ byt b := by simp [byt]
theorem s91 (id : Int) (nn : Bool) (B : List Int) (hL : B.length ≤ 100000) (hB : bytes B) : Pure En 166 [.one (.int .i64 id), .one (.sl nn (B.map bT))] [.one (.str (mk id (strOw B)))] := by
 have e1 : (((Hs (lit1 ++ Nm id 1)).data.toList.map fun b => [V.int .u8 (b.toNat : Int)]).drop 0) ++ ((B.map bT).map fun x => x.map (T.toV false)) = (byt ((Hs (lit1 ++ Nm id 1)) ++ strOw B)).map bV := by
  rw [I6, List.drop_zero, P0, byt_app, T4 hB, List.map_append]
 refine Pure.of_ev (st := []) Tryz.func166 rfl kb ?_
 refine C1 (s104 id) rfl rfl rfl ?_
 refine ebt j5 ?_
 (apply eap (s' := 1) rfl rfl; exact Q0; exact j2; (show 0 + (Hs _).size = List.length _; rw [L0]; omega); exact j2; exact kz; rfl; exact (V2 false B); (simp only [List.length_map, F4]; omega); (simp only [List.length_map, F4]; omega))
 apply eclS [1] (s103s true ((Hs (lit1 ++ Nm id 1)) ++ strOw B) (by rw [ByteArray.size_append, F4, D4]; omega)) rfl rfl rfl
 ·refine SnapL.cons _ _ _ _ (.one _ _ (snapB (List.mem_singleton.2 rfl) ?_ ?_)) SnapL.nil
  ·(first | ((simp (disch := omega) only [↓app0, ↓appC, ↓updS, ↓updN, ↓hpS, ↓hpN]); exact congrArg (fun z => some (Blk.mk z 1 5)) e1))
  ·rw [E3, ByteArray.size_append, D4, List.length_map, List.length_map]
 refine sd ⟨by (first | omega | assumption | (rw [F4]; omega) | (show (8 : Int) ≤ ((Hs _).size : Int); rw [F4]; omega)), by (first | omega | assumption | (rw [F4]; omega) | (show (8 : Int) ≤ ((Hs _).size : Int); rw [F4]; omega)), by (first | omega | assumption | (rw [F4]; omega) | (show (8 : Int) ≤ ((Hs _).size : Int); rw [F4]; omega))⟩ ?_
 exact B4 rfl rfl
open Go.V
set_option linter.unusedVariables false
set_option linter.unusedSimpArgs false
set_option maxRecDepth 20000
set_option maxHeartbeats 4000000
noncomputable def bare (m : Msg) : ByteArray := Nm m.kd 1 ++ Nm m.vw 1 ++ Nm m.sq 1 ++ Nm m.fr 1 ++ Nm m.dg.size 1 ++ m.dg ++ Nm m.bd.size 2 ++ m.bd
theorem bare_size (m : Msg) : (bare m).size = 7 + m.dg.size + m.bd.size := by unfold bare; simp only [ByteArray.size_append, D5]; omega
theorem Msg.OK.dz {m : Msg} (h : m.OK) : m.dg.size ≤ 32 := by
 have e := h.2.2.2.2.2
 split at e
 ·omega
 ·rw [e.2]; exact Nat.zero_le _
def litB : ByteArray := ⟨#[98, 97, 116, 99, 104]⟩
noncomputable def dgB (b : ByteArray) : ByteArray := Hs (litB ++ b)
def litC : ByteArray := ⟨#[99, 108, 111, 99, 107]⟩
noncomputable def rdM (fr vl : Int) : ByteArray := mk fr (litC ++ Nm vl 4)
noncomputable instance dcSg (n : Int) (m : Msg) : Decidable (nodes n ∧ sgd mk bare n m) := Classical.propDecidable _
theorem s138 (m : Msg) (hd : m.dg.size ≤ 1000) (hb : m.bd.size ≤ 20000) : Pure En 125 [.agg m.T] [.one (.str (bare m))] := by
 refine Pure.of_ev (st := []) Tryz.func125 rfl kb ?_
 refine A1 ?_
 refine C1 (q37 _ 1 kb) rfl rfl rfl ?_
 refine A1 ?_
 refine C1 (q37 _ 1 kb) rfl rfl rfl ?_
 refine sd (by (simp only [ByteArray.size_append, D5]; omega)) ?_
 refine A1 ?_
 refine C1 (q37 _ 1 kb) rfl rfl rfl ?_
 refine sd (by (simp only [ByteArray.size_append, D5]; omega)) ?_
 refine A1 ?_
 refine C1 (q37 _ 1 kb) rfl rfl rfl ?_
 refine sd (by (simp only [ByteArray.size_append, D5]; omega)) ?_
 refine A1 ?_
 refine C1 (q37 _ 1 kb) rfl rfl rfl ?_
 refine sd (by (simp only [ByteArray.size_append, D5]; omega)) ?_
 refine A1 ?_
 refine sd (by (simp only [ByteArray.size_append, D5]; omega)) ?_
 refine A1 ?_
 refine C1 (q37 _ 2 kb) rfl rfl rfl ?_
 refine sd (by (simp only [ByteArray.size_append, D5]; omega)) ?_
 refine A1 ?_
 refine sd (by (simp only [ByteArray.size_append, D5]; omega)) ?_
 exact B4 rfl rfl
theorem m137 (id : Int) (t : ByteArray) (ht : t.size ≤ 900000) : Pure En 124 [.one (.int .i64 id), .one (.str t)] [.one (.str (mk id t))] := by
 refine Pure.of_ev (st := []) Tryz.func124 rfl kb ?_
 refine C1 (q37 id 1 kb) rfl rfl rfl ?_
 refine sd (by exact Q24) ?_
 refine C1 (q45 (lit1 ++ Nm id 1) (by rw [ByteArray.size_append, D5]; show 8 + 1 ≤ _; omega)) rfl rfl rfl ?_
 refine sd (by exact Q24) ?_
 refine C1 (q45 (Hs (lit1 ++ Nm id 1) ++ t) (by rw [ByteArray.size_append, F4]; omega)) rfl rfl rfl ?_
 refine sd ⟨by exact Q24, by exact Q24, by exact Q24⟩ ?_
 exact B4 rfl rfl
theorem s159 (b : ByteArray) (hb : b.size ≤ 900000) : Pure En 159 [.one (.str b)] [.one (.str (dgB b))] := by
 refine Pure.of_ev (st := []) Tryz.func159 rfl kb ?_
 refine sd (by (first | omega | (show 5 + _ ≤ _; omega))) ?_
 refine C1 (q45 (litB ++ b) (by rw [ByteArray.size_append]; show 5 + _ ≤ _; omega)) rfl rfl rfl ?_
 exact B4 rfl rfl
theorem s276 (fr vl : Int) : Pure En 276 [.one (.int .i64 fr), .one (.int .i64 vl)] [.one (.str (rdM fr vl))] := by
 refine Pure.of_ev (st := []) Tryz.func276 rfl kb ?_
 refine C1 (q37 _ 4 kb) rfl rfl rfl ?_
 refine sd (by (first | omega | (rw [D5]; show 5 + 4 ≤ _; omega))) ?_
 refine C1 (m137 fr (litC ++ Nm vl 4) (by rw [ByteArray.size_append, D5]; show 5 + 4 ≤ _; omega)) rfl rfl rfl ?_
 exact B4 rfl rfl
theorem s55 (n : Int) (m : Msg) : Pure En 50 [.one (.int .i64 n), .agg m.T] [.one (.bool (decide (nodes n ∧ sgd mk bare n m)))] := by
 refine Pure.of_ev (st := []) Tryz.func50 rfl kb ?_
 refine B0 (p22 n) rfl j2 ?_ ?_ <;> intro h1_1
 ·(apply C3 (vs := [.int _ _, .int _ _, .int _ _, .int _ _, .str _, .str _, .str _]) j2; exact Q0; rfl; rfl; exact kb; rfl)
  refine B0 (s136 m) rfl j2 ?_ ?_ <;> intro h1_4
  ·refine A1 ?_
   refine br ?_ ?_ <;> intro h1_10
   ·refine A1 ?_
    refine A1 ?_
    (apply C3 (vs := [.int _ _, .int _ _, .int _ _, .int _ _, .str _, .str _, .str _]) j2; exact Q0; rfl; rfl; exact kb; rfl)
    refine C1 (s138 m (by have := h1_4.dz; omega) h1_4.2.2.2.2.1) rfl rfl rfl ?_
    refine C1 (m137 m.fr (bare m) (by rw [bare_size]; have := h1_4.dz; have := h1_4.2.2.2.2.1; omega)) rfl rfl rfl ?_
    refine br ?_ ?_ <;> intro h1_20
    ·first
     | (refine B7 rfl ?_; exact ⟨by assumption, by assumption, by assumption, by assumption⟩)
     | (refine A7 rfl ?_; rintro ⟨q1, q2, q3, q4⟩; first | exact absurd q1 (by assumption) | exact absurd q2 (by assumption) | exact absurd q3 (by assumption) | exact absurd q4 (by assumption))
    ·first
     | (refine B7 rfl ?_; exact ⟨by assumption, by assumption, by assumption, by assumption⟩)
     | (refine A7 rfl ?_; rintro ⟨q1, q2, q3, q4⟩; first | exact absurd q1 (by assumption) | exact absurd q2 (by assumption) | exact absurd q3 (by assumption) | exact absurd q4 (by assumption))
   ·first
    | (refine B7 rfl ?_; exact ⟨by assumption, by assumption, by assumption, by assumption⟩)
    | (refine A7 rfl ?_; rintro ⟨q1, q2, q3, q4⟩; first | exact absurd q1 (by assumption) | exact absurd q2 (by assumption) | exact absurd q3 (by assumption) | exact absurd q4 (by assumption))
  ·first
   | (refine B7 rfl ?_; exact ⟨by assumption, by assumption, by assumption, by assumption⟩)
   | (refine A7 rfl ?_; rintro ⟨q1, q2, q3, q4⟩; first | exact absurd q1 (by assumption) | exact absurd q2 (by assumption) | exact absurd q3 (by assumption) | exact absurd q4 (by assumption))
 ·first
  | (refine B7 rfl ?_; exact ⟨by assumption, by assumption, by assumption, by assumption⟩)
  | (refine A7 rfl ?_; rintro ⟨q1, q2, q3, q4⟩; first | exact absurd q1 (by assumption) | exact absurd q2 (by assumption) | exact absurd q3 (by assumption) | exact absurd q4 (by assumption))
end Go.Proofs.YteifdelnahccjaaGreatDoor
