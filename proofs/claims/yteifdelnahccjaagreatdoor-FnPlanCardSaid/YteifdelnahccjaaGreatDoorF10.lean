import Derived.Test.YteifdelnahccjaaGreatDoorF9
namespace Go.Proofs.YteifdelnahccjaaGreatDoor
open Go.V
set_option linter.unusedVariables false
set_option linter.unusedSimpArgs false
set_option maxRecDepth 20000
set_option maxHeartbeats 4000000
def qD (p : ByteArray) (i : Nat) : ByteArray := p.extract (1 + 13 * (i : Int)).toNat (14 + 13 * (i : Int)).toNat
def rgD (p : ByteArray) (i : Nat) : Rg := ⟨bt (qD p i) 0, num ((qD p i).extract 1 5) 0 ((qD p i).extract 1 5).size, (qD p i).extract (5 : Int).toNat ((qD p i).size : Int).toNat⟩
theorem rgD_V (p : ByteArray) (i : Nat) : Rg.V (rgD p i) = [.int .i64 (bt (qD p i) 0), .int .i64 (num ((qD p i).extract 1 5) 0 ((qD p i).extract 1 5).size), .str ((qD p i).extract (5 : Int).toNat ((qD p i).size : Int).toNat)] := by
 dsimp only [Rg.V, rgD]
def rgs (p : ByteArray) (i : Nat) : List Rg := (List.range i).map (rgD p)
theorem rgs_len (p : ByteArray) (i : Nat) : (rgs p i).length = i := by unfold rgs; rw [List.length_map, List.length_range]
theorem rgs_succ (p : ByteArray) (i : Nat) : rgs p (i + 1) = rgs p i ++ [rgD p i] := by unfold rgs; rw [List.range_succ, List.map_append]; rfl
theorem rgD_eq {p : ByteArray} {i : Nat} (h : 14 + 13 * i ≤ p.size) : rgD p i = rgC p i := by
 have e1 : (1 + 13 * (i : Int)).toNat = 1 + 13 * i := by omega
 have e2 : (14 + 13 * (i : Int)).toNat = 14 + 13 * i := by omega
 have hs : (p.extract (1 + 13 * i) (14 + 13 * i)).size = 13 := by rw [C5 h]; omega
 unfold rgD rgC qD
 rw [e1, e2, bt_ext (by omega) h, Int.toNat_natCast, show (5 : Int).toNat = 5 from rfl, hs, P9 (by omega), P9 (by omega), C5 (by omega), num_1, show 1 + 13 * i + 5 - (1 + 13 * i + 1) = 4 by omega, F0 (by omega) (by omega), Nat.add_zero, Nat.add_zero,
  show 1 + 13 * i + 1 = 2 + 13 * i by omega, show 1 + 13 * i + 5 = 6 + 13 * i by omega, show 1 + 13 * i + 13 = 14 + 13 * i by omega]
theorem rgs_eq {p : ByteArray} : ∀ {k : Nat}, 1 + 13 * k ≤ p.size → rgs p k = (List.range k).map (rgC p)
 | 0, _ => rfl
 | k + 1, h => by rw [rgs_succ, rgs_eq (by omega), rgD_eq (by omega), List.range_succ, List.map_append]; rfl
def rbQ (p : ByteArray) : ByteArray := p.extract (1 + 13 * (bt p 0 - 1)).toNat p.size
noncomputable def rbL (p : ByteArray) : Bt := ⟨false, rqR (rbQ p), rgs p (bt p 0 - 1).toNat⟩
noncomputable def rbX (p : ByteArray) : Bt := if p = ⟨#[]⟩ then BtZ else if bt p 0 = 0 then BtN else if (p.size : Int) < 1 + 13 * (bt p 0 - 1) then BtZ else rbL p
theorem rb_ne {p : ByteArray} (h : p ≠ ⟨#[]⟩) : 1 ≤ p.size := by
 rcases Nat.eq_zero_or_pos p.size with q | q
 ·exact absurd (size0 q) h
 ·exact q
theorem rb_e {p : ByteArray} (h : p = ⟨#[]⟩) : ¬ bOK p := by
 subst h
 rintro (e | ⟨e, _⟩)
 ·cases e
 ·have := e.1; have : (⟨#[]⟩ : ByteArray).size = 0 := rfl; omega
theorem rb_0 {p : ByteArray} (h : p ≠ ⟨#[]⟩) (h0 : bt p 0 = 0) : bOK p ↔ p.size = 1 := by
 have h1 := rb_ne h
 constructor
 ·rintro (e | ⟨e, _⟩)
  ·exact ((G3 p).1 e).1
  ·have := e.2.1; rw [num_1] at this; omega
 ·intro e; exact .inl ((G3 p).2 ⟨e, by rw [num_1]; exact h0⟩)
theorem rb_n (p : ByteArray) : btN p = (bt p 0 - 1).toNat := by unfold btN; rw [num_1]
theorem rb_s {p : ByteArray} (h0 : bt p 0 ≠ 0) (h : (p.size : Int) < 1 + 13 * (bt p 0 - 1)) : ¬ bOK p := by
 have := U4 p 0
 rintro (e | ⟨e, _⟩)
 ·have := ((G3 p).1 e).2; rw [num_1] at this; omega
 ·have := e.2.2.1; rw [rb_n] at this; omega
theorem rb_q {p : ByteArray} (h0 : bt p 0 ≠ 0) (h : ¬ (p.size : Int) < 1 + 13 * (bt p 0 - 1)) : rbQ p = p.extract (1 + 13 * btN p) p.size := by
 have := U4 p 0
 unfold rbQ
 rw [rb_n, show (1 + 13 * (bt p 0 - 1)).toNat = 1 + 13 * (bt p 0 - 1).toNat by omega]
theorem rb_c {p : ByteArray} (h0 : bt p 0 ≠ 0) (h : ¬ (p.size : Int) < 1 + 13 * (bt p 0 - 1)) (hl : rqL (rbQ p) 0) : rbL p = btC p := by
 have h1 := U4 p 0
 have hn := rb_n p
 have hle : 1 + 13 * btN p ≤ p.size := by rw [hn]; omega
 unfold rbL btC
 rw [← hn, rgs_eq hle, show rqR (rbQ p) = rqC (rbQ p) 0 from if_pos hl]
 rw [rb_q h0 h] at hl ⊢
 rw [rqL_ext hle] at hl
 rw [rqC_ext hl.1]
theorem rb_ok {p : ByteArray} (h : p ≠ ⟨#[]⟩) (h0 : bt p 0 ≠ 0) (hs : ¬ (p.size : Int) < 1 + 13 * (bt p 0 - 1)) : bOK p ↔ (rqL (rbQ p) 0 ∧ (rqC (rbQ p) 0).OK) ∧ (rbL p).OK := by
 have h1 := rb_ne h
 have h2 := U4 p 0
 have hn := rb_n p
 have hle : 1 + 13 * btN p ≤ p.size := by rw [hn]; omega
 have hx : rqL (rbQ p) 0 ↔ rqL p (1 + 13 * btN p) := by rw [rb_q h0 hs]; exact rqL_ext hle
 constructor
 ·rintro (e | ⟨⟨_, _, _, e1⟩, e2⟩)
  ·have := ((G3 p).1 e).2; rw [num_1] at this; omega
  ·have hl := hx.2 e1
   have hc := rb_c h0 hs hl
   rw [← hc] at e2
   refine ⟨⟨hl, ?_⟩, e2⟩
   have e3 := e2
   unfold Bt.OK at e3
   rw [if_neg (by show ¬ false = true; exact Bool.noConfusion)] at e3
   have e4 := e3.1
   rwa [show (rbL p).rq = rqC (rbQ p) 0 from if_pos hl] at e4
 ·rintro ⟨⟨hl, _⟩, e⟩
  rw [rb_c h0 hs hl] at e
  exact .inr ⟨⟨h1, by rw [num_1]; omega, hle, hx.1 hl⟩, e⟩
theorem X3 {p : ByteArray} (hb : bOK p) : rbX p = bX p := by
 have he : p ≠ ⟨#[]⟩ := fun e => rb_e e hb
 unfold rbX bX
 rw [if_neg he]
 by_cases h0 : bt p 0 = 0
 ·rw [if_pos h0, if_pos ((G3 p).2 ⟨(rb_0 he h0).1 hb, by rw [num_1]; exact h0⟩)]
 ·have hs : ¬ (p.size : Int) < 1 + 13 * (bt p 0 - 1) := fun q => rb_s h0 q hb
  have hk := (rb_ok he h0 hs).1 hb
  rw [if_neg h0, if_neg hs, if_neg (fun e => h0 (by rw [← num_1]; exact ((G3 p).1 e).2)), rb_c h0 hs hk.1.1]
structure RB where
 i : Nat
 b : Nat
 m : Nat
 g : Heap
structure RBI (p : ByteArray) (a : RB) : Prop where
 il : a.i ≤ (bt p 0 - 1).toNat
 g0 : a.g 0 = ZB RqZ .nsl
 g2 : a.g 2 = ZB RqZ (.view a.b 0 a.i)
 out : a.g a.b = some ⟨(rgs p a.i).map Rg.V, 3, 273⟩
 bm : a.b < a.m ∧ a.b ≠ 0 ∧ a.b ≠ 2
 mm : 3 ≤ a.m
theorem r151 (p : ByteArray) (hp : p.size ≤ 1000000) : Pure En 151 [.one (.str p)] [.agg ((rbX p).T false), .one (.bool (decide (bOK p)))] := by
 refine Pure.of_ev (st := [11]) Tryz.func151 rfl kb ?_
 refine br ?_ ?_ <;> intro h1_1
 ·(apply est (u := .agg [.bool _, .int _ _, .int _ _, .int _ _, .int _ _, .str _, _]) j3; exact Q0; exact Q8; exact j4; exact kb; rfl)
  rw [show rbX p = BtZ from if_pos h1_1, decide_eq_false (rb_e h1_1)]
  refine C7 [] (A0 (A2 rfl (by exact Q0) j2 kb rfl) (A0 rfl A1)) ?_
  exact (SnapL.cons _ _ _ _ (SnapC.agg (.cons _ _ _ _ (.bool _) (.cons _ _ _ _ (.int _ _) (.cons _ _ _ _ (.int _ _) (.cons _ _ _ _ (.int _ _) (.cons _ _ _ _ (.int _ _) (.cons _ _ _ _ (.str _) (.cons _ _ _ _ .nslW .nil)))))))) (SnapL.cons _ _ _ _ (.one _ _ (.bool _)) SnapL.nil))
 ·have hne := rb_ne h1_1
  have hb0 := U4 p 0
  have hb1 := E7 p 0
  refine lit 0 rfl (C2 ?_)
  refine cvA ?_
  refine br ?_ ?_ <;> intro h4_1
  ·refine D3 (es := []) j4 kz kb rfl rfl ?_
   refine br ?_ ?_ <;> intro h5_4
   ·(apply est (u := .agg [.bool _, .int _ _, .int _ _, .int _ _, .int _ _, .str _, _]) j3; exact Q0; exact Q8; exact j4; exact kb; rfl)
    rw [show rbX p = BtN from (if_neg h1_1).trans (if_pos h4_1)]
    first
    | (rw [decide_eq_true ((rb_0 h1_1 h4_1).2 (by omega))]; refine C7 [1] (A0 (A2 rfl (by exact Q0) j2 kb rfl) (A0 rfl A1)) ?_; exact (SnapL.cons _ _ _ _ (SnapC.agg (.cons _ _ _ _ (.bool _) (.cons _ _ _ _ (.int _ _) (.cons _ _ _ _ (.int _ _) (.cons _ _ _ _ (.int _ _) (.cons _ _ _ _ (.int _ _) (.cons _ _ _ _ (.str _) (.cons _ _ _ _ (.weak _ _ (A3 (b := ⟨[], 3, 273⟩) [] (List.mem_singleton.2 rfl) (by exact Q0) rfl rfl)) .nil)))))))) (SnapL.cons _ _ _ _ (.one _ _ (.bool _)) SnapL.nil)))
    | (rw [decide_eq_false (fun e => absurd ((rb_0 h1_1 h4_1).1 e) (by omega))]; refine C7 [1] (A0 (A2 rfl (by exact Q0) j2 kb rfl) (A0 rfl A1)) ?_; exact (SnapL.cons _ _ _ _ (SnapC.agg (.cons _ _ _ _ (.bool _) (.cons _ _ _ _ (.int _ _) (.cons _ _ _ _ (.int _ _) (.cons _ _ _ _ (.int _ _) (.cons _ _ _ _ (.int _ _) (.cons _ _ _ _ (.str _) (.cons _ _ _ _ (.weak _ _ (A3 (b := ⟨[], 3, 273⟩) [] (List.mem_singleton.2 rfl) (by exact Q0) rfl rfl)) .nil)))))))) (SnapL.cons _ _ _ _ (.one _ _ (.bool _)) SnapL.nil)))
   ·(apply est (u := .agg [.bool _, .int _ _, .int _ _, .int _ _, .int _ _, .str _, _]) j3; exact Q0; exact Q8; exact j4; exact kb; rfl)
    rw [show rbX p = BtN from (if_neg h1_1).trans (if_pos h4_1)]
    first
    | (rw [decide_eq_true ((rb_0 h1_1 h4_1).2 (by omega))]; refine C7 [1] (A0 (A2 rfl (by exact Q0) j2 kb rfl) (A0 rfl A1)) ?_; exact (SnapL.cons _ _ _ _ (SnapC.agg (.cons _ _ _ _ (.bool _) (.cons _ _ _ _ (.int _ _) (.cons _ _ _ _ (.int _ _) (.cons _ _ _ _ (.int _ _) (.cons _ _ _ _ (.int _ _) (.cons _ _ _ _ (.str _) (.cons _ _ _ _ (.weak _ _ (A3 (b := ⟨[], 3, 273⟩) [] (List.mem_singleton.2 rfl) (by exact Q0) rfl rfl)) .nil)))))))) (SnapL.cons _ _ _ _ (.one _ _ (.bool _)) SnapL.nil)))
    | (rw [decide_eq_false (fun e => absurd ((rb_0 h1_1 h4_1).1 e) (by omega))]; refine C7 [1] (A0 (A2 rfl (by exact Q0) j2 kb rfl) (A0 rfl A1)) ?_; exact (SnapL.cons _ _ _ _ (SnapC.agg (.cons _ _ _ _ (.bool _) (.cons _ _ _ _ (.int _ _) (.cons _ _ _ _ (.int _ _) (.cons _ _ _ _ (.int _ _) (.cons _ _ _ _ (.int _ _) (.cons _ _ _ _ (.str _) (.cons _ _ _ _ (.weak _ _ (A3 (b := ⟨[], 3, 273⟩) [] (List.mem_singleton.2 rfl) (by exact Q0) rfl rfl)) .nil)))))))) (SnapL.cons _ _ _ _ (.one _ _ (.bool _)) SnapL.nil)))
  ·refine B7 ?_
   refine B7 ?_
   refine B7 ?_
   refine br ?_ ?_ <;> intro h6_6
   ·(apply est (u := .agg [.bool _, .int _ _, .int _ _, .int _ _, .int _ _, .str _, _]) j3; exact Q0; exact Q8; exact j4; exact kb; rfl)
    rw [show rbX p = BtZ from (if_neg h1_1).trans ((if_neg h4_1).trans (if_pos h6_6)), decide_eq_false (rb_s h4_1 h6_6)]
    refine C7 [] (A0 (A2 rfl (by exact Q0) j2 kb rfl) (A0 rfl A1)) ?_
    exact (SnapL.cons _ _ _ _ (SnapC.agg (.cons _ _ _ _ (.bool _) (.cons _ _ _ _ (.int _ _) (.cons _ _ _ _ (.int _ _) (.cons _ _ _ _ (.int _ _) (.cons _ _ _ _ (.int _ _) (.cons _ _ _ _ (.str _) (.cons _ _ _ _ .nslW .nil)))))))) (SnapL.cons _ _ _ _ (.one _ _ (.bool _)) SnapL.nil))
   ·refine D3 (es := []) j4 kz kb rfl rfl ?_
    (apply est (u := .agg [.bool _, .int _ _, .int _ _, .int _ _, .int _ _, .str _, _]) j3; exact Q0; exact Q8; exact j4; exact kb; rfl)
    refine U7 fun g0 hg0 => ?_
    refine A9 (fun (a : RB) => [.str p, .unk, .ptr 0 0 0, .unk, .int .i64 (bt p 0), .ptr 2 0 0, .int .i64 a.i]) (fun (a : RB) => a.g) (fun (a : RB) => a.m) (fun (a : RB) => RBI p a) (fun (a : RB) => (bt p 0 - 1).toNat - a.i) ⟨0, 1, 3, g0⟩ ?_ ?_ ?_ ?_ ?_
    ·refine ⟨Nat.zero_le _, ?_, ?_, ?_, ⟨by dsimp only; omega, by dsimp only; omega, by dsimp only; omega⟩, by dsimp only; omega⟩
     ·dsimp only; rw [hg0]; exact Q0
     ·dsimp only; rw [hg0]; exact Q0
     ·dsimp only; rw [hg0]; exact Q0
    ·(repeat first | exact LE.nil _ | refine LE.unk _ _ ?_ | refine LE.eq _ _ _ rfl ?_)
    ·exact LessH.refl _
    ·exact Nat.le_refl _
    intro ⟨i, b, m, g⟩ hI ih
    have q0 := hI.il
    have hg0 := hI.g0
    have hg2 := hI.g2
    have hgb := hI.out
    have hbm := hI.bm
    have q4 := hI.mm
    unfold ZB RqZ at hg0 hg2
    dsimp only at q0 hg0 hg2 hgb hbm q4 ⊢
    have hrl := rgs_len p i
    refine A7 (st := [11]) ?_
    refine B7 ?_
    refine br ?_ ?_ <;> intro h10_3
    ·have hqs : (p.extract (1 + 13 * (i : Int)).toNat (14 + 13 * (i : Int)).toNat).size = 13 := by rw [C5 (by omega)]; omega
     refine B7 ?_
     refine B7 ?_
     refine B7 ?_
     refine B7 ?_
     refine C2 ?_
     refine A4 ?_ (by exact Q0) (by exact Q8)
     refine lit 0 rfl (C2 ?_)
     refine cvA ?_
     refine C2 ?_
     refine C8 (r220 ((p.extract (1 + 13 * (i : Int)).toNat (14 + 13 * (i : Int)).toNat).extract 1 5) (by rw [C5 (by omega)]; omega)) rfl rfl rfl ?_
     refine C2 ?_
     refine D3 (es := [[.int _ _, .int _ _, .str _]]) j4 kz kb rfl rfl ?_
     (apply eap (s' := 32) (es := [[.int _ _, .int _ _, .str _]]) rfl rfl; exact Q0; exact j2; (first | rfl | (rw [List.length_map]; omega)); exact j2; exact kz; exact H5; exact Q6; exact Q4; exact Q4)
     (apply est (u := .view _ _ _) j3; exact Q0; exact Q8; exact j4; exact kb; rfl)
     refine clr 15 [3, 0, 3, 3, 0, 0, 0, 0, 0, 0, 0, 0, 0, 1, 0] [(1, 11)] j2 (by decide +kernel) ?_ ?_
     ·first | (simp [ClearL, ids]; done) | (simp [ClearL, ids]; omega) | (simp [ClearL, ids, srcIds, Env.eval, put, upd, retV, A.toV, T.toV]; try omega)
     refine E1 fun G hG => ?_
     refine B7 ?_
     refine C6 (ih ⟨i + 1, m + 1, m + 1 + 1, G⟩ ⟨by dsimp only; omega, ?_, ?_, ?_, ⟨by dsimp only; omega, by dsimp only; omega, by dsimp only; omega⟩, by dsimp only; omega⟩ (by dsimp only; omega)) (by (repeat first | exact LE.nil _ | refine LE.unk _ _ ?_ | refine LE.eq _ _ _ rfl ?_)) (LessH.refl _) (Nat.le_refl _)
     ·dsimp only; rw [hG]; exact Q0
     ·dsimp only; rw [hG]; exact Q0
     ·dsimp only; rw [hG, rgs_succ, List.map_append, List.map_cons, List.map_nil, rgD_V]; exact Q0
    ·have hie : i = (bt p 0 - 1).toNat := by omega
     have hQ : (rbQ p).size ≤ 1000000 := by unfold rbQ; rw [C5 (Nat.le_refl _)]; omega
     refine B7 ?_
     refine B7 ?_
     refine B7 ?_
     refine C2 ?_
     refine C8 (r221 (rbQ p) hQ) rfl rfl rfl ?_
     refine brB ?_ ?_ <;> intro h14_9
     ·(apply est (u := .agg [.int _ _, .int _ _, .int _ _, .int _ _, .str _]) j3; exact Q0; exact Q8; exact j4; exact kb; rfl)
      (apply D2 (vs := [.int _ _, .int _ _, .int _ _, .int _ _, .str _]) j2; exact Q0; exact Q8; rfl; exact kb; rfl)
      (apply est (u := .agg [.int _ _, .int _ _, .int _ _, .int _ _, .str _]) j3; exact Q0; exact Q8; exact j4; exact kb; rfl)
      (apply D2 (vs := [.bool _, .int _ _, .int _ _, .int _ _, .int _ _, .str _, _]) j2; exact Q0; exact Q8; rfl; exact kb; rfl)
      (apply D2 (vs := [.bool _, .int _ _, .int _ _, .int _ _, .int _ _, .str _, _]) j2; exact Q0; exact Q8; rfl; exact kb; rfl)
      apply eclSP [b] (r222 ⟨false, rqR (rbQ p), rgs p i⟩ true) rfl j2
      ·exact SnapL.cons _ _ _ _ (SnapC.agg (.cons _ _ _ _ (.bool _) (.cons _ _ _ _ (.int _ _) (.cons _ _ _ _ (.int _ _) (.cons _ _ _ _ (.int _ _) (.cons _ _ _ _ (.int _ _) (.cons _ _ _ _ (.str _) (.cons _ _ _ _ (A3 (b := ⟨(rgs p i).map Rg.V, 3, 273⟩) ((rgs p i).map Rg.T) (List.mem_singleton.2 rfl) (by exact Q0) (G4 _).symm (by rw [List.length_map]; exact hrl.symm)) .nil)))))))) SnapL.nil
      all_goals intro h16_4
      ·(apply est (u := .agg [.bool _, .int _ _, .int _ _, .int _ _, .int _ _, .str _, _]) j3; exact Q0; exact Q8; exact j4; exact kb; rfl)
       refine F6 ?_
       have hxi : (⟨false, rqR (rbQ p), rgs p i⟩ : Bt) = rbL p := by unfold rbL; rw [← hie]
       have hk := rb_ok h1_1 h4_1 h6_6
       rw [show rbX p = rbL p from (if_neg h1_1).trans ((if_neg h4_1).trans (if_neg h6_6))]
       first
       | (rw [decide_eq_true (hk.2 ⟨of_decide_eq_true h14_9, by rw [← hxi]; exact h16_4⟩)]; (rw [← hxi]; refine C7 [b] (A0 (A2 rfl (by exact Q0) j2 kb rfl) (A0 rfl A1)) ?_; exact (SnapL.cons _ _ _ _ (SnapC.agg (.cons _ _ _ _ (.bool _) (.cons _ _ _ _ (.int _ _) (.cons _ _ _ _ (.int _ _) (.cons _ _ _ _ (.int _ _) (.cons _ _ _ _ (.int _ _) (.cons _ _ _ _ (.str _) (.cons _ _ _ _ (.weak _ _ (A3 (b := ⟨(rgs p i).map Rg.V, 3, 273⟩) ((rgs p i).map Rg.T) (List.mem_singleton.2 rfl) (by exact Q0) (G4 _).symm (by rw [List.length_map]; exact hrl.symm))) .nil)))))))) (SnapL.cons _ _ _ _ (.one _ _ (.bool _)) SnapL.nil))))
       | (rw [decide_eq_false (fun e => h16_4 (by rw [hxi]; exact (hk.1 e).2))]; (rw [← hxi]; refine C7 [b] (A0 (A2 rfl (by exact Q0) j2 kb rfl) (A0 rfl A1)) ?_; exact (SnapL.cons _ _ _ _ (SnapC.agg (.cons _ _ _ _ (.bool _) (.cons _ _ _ _ (.int _ _) (.cons _ _ _ _ (.int _ _) (.cons _ _ _ _ (.int _ _) (.cons _ _ _ _ (.int _ _) (.cons _ _ _ _ (.str _) (.cons _ _ _ _ (.weak _ _ (A3 (b := ⟨(rgs p i).map Rg.V, 3, 273⟩) ((rgs p i).map Rg.T) (List.mem_singleton.2 rfl) (by exact Q0) (G4 _).symm (by rw [List.length_map]; exact hrl.symm))) .nil)))))))) (SnapL.cons _ _ _ _ (.one _ _ (.bool _)) SnapL.nil))))
       | (rw [decide_eq_false (fun e => absurd (hk.1 e).1 (of_decide_eq_false h14_9))]; (rw [← hxi]; refine C7 [b] (A0 (A2 rfl (by exact Q0) j2 kb rfl) (A0 rfl A1)) ?_; exact (SnapL.cons _ _ _ _ (SnapC.agg (.cons _ _ _ _ (.bool _) (.cons _ _ _ _ (.int _ _) (.cons _ _ _ _ (.int _ _) (.cons _ _ _ _ (.int _ _) (.cons _ _ _ _ (.int _ _) (.cons _ _ _ _ (.str _) (.cons _ _ _ _ (.weak _ _ (A3 (b := ⟨(rgs p i).map Rg.V, 3, 273⟩) ((rgs p i).map Rg.T) (List.mem_singleton.2 rfl) (by exact Q0) (G4 _).symm (by rw [List.length_map]; exact hrl.symm))) .nil)))))))) (SnapL.cons _ _ _ _ (.one _ _ (.bool _)) SnapL.nil))))
      ·(apply est (u := .agg [.bool _, .int _ _, .int _ _, .int _ _, .int _ _, .str _, _]) j3; exact Q0; exact Q8; exact j4; exact kb; rfl)
       refine F6 ?_
       have hxi : (⟨false, rqR (rbQ p), rgs p i⟩ : Bt) = rbL p := by unfold rbL; rw [← hie]
       have hk := rb_ok h1_1 h4_1 h6_6
       rw [show rbX p = rbL p from (if_neg h1_1).trans ((if_neg h4_1).trans (if_neg h6_6))]
       first
       | (rw [decide_eq_true (hk.2 ⟨of_decide_eq_true h14_9, by rw [← hxi]; exact h16_4⟩)]; (rw [← hxi]; refine C7 [b] (A0 (A2 rfl (by exact Q0) j2 kb rfl) (A0 rfl A1)) ?_; exact (SnapL.cons _ _ _ _ (SnapC.agg (.cons _ _ _ _ (.bool _) (.cons _ _ _ _ (.int _ _) (.cons _ _ _ _ (.int _ _) (.cons _ _ _ _ (.int _ _) (.cons _ _ _ _ (.int _ _) (.cons _ _ _ _ (.str _) (.cons _ _ _ _ (.weak _ _ (A3 (b := ⟨(rgs p i).map Rg.V, 3, 273⟩) ((rgs p i).map Rg.T) (List.mem_singleton.2 rfl) (by exact Q0) (G4 _).symm (by rw [List.length_map]; exact hrl.symm))) .nil)))))))) (SnapL.cons _ _ _ _ (.one _ _ (.bool _)) SnapL.nil))))
       | (rw [decide_eq_false (fun e => h16_4 (by rw [hxi]; exact (hk.1 e).2))]; (rw [← hxi]; refine C7 [b] (A0 (A2 rfl (by exact Q0) j2 kb rfl) (A0 rfl A1)) ?_; exact (SnapL.cons _ _ _ _ (SnapC.agg (.cons _ _ _ _ (.bool _) (.cons _ _ _ _ (.int _ _) (.cons _ _ _ _ (.int _ _) (.cons _ _ _ _ (.int _ _) (.cons _ _ _ _ (.int _ _) (.cons _ _ _ _ (.str _) (.cons _ _ _ _ (.weak _ _ (A3 (b := ⟨(rgs p i).map Rg.V, 3, 273⟩) ((rgs p i).map Rg.T) (List.mem_singleton.2 rfl) (by exact Q0) (G4 _).symm (by rw [List.length_map]; exact hrl.symm))) .nil)))))))) (SnapL.cons _ _ _ _ (.one _ _ (.bool _)) SnapL.nil))))
       | (rw [decide_eq_false (fun e => absurd (hk.1 e).1 (of_decide_eq_false h14_9))]; (rw [← hxi]; refine C7 [b] (A0 (A2 rfl (by exact Q0) j2 kb rfl) (A0 rfl A1)) ?_; exact (SnapL.cons _ _ _ _ (SnapC.agg (.cons _ _ _ _ (.bool _) (.cons _ _ _ _ (.int _ _) (.cons _ _ _ _ (.int _ _) (.cons _ _ _ _ (.int _ _) (.cons _ _ _ _ (.int _ _) (.cons _ _ _ _ (.str _) (.cons _ _ _ _ (.weak _ _ (A3 (b := ⟨(rgs p i).map Rg.V, 3, 273⟩) ((rgs p i).map Rg.T) (List.mem_singleton.2 rfl) (by exact Q0) (G4 _).symm (by rw [List.length_map]; exact hrl.symm))) .nil)))))))) (SnapL.cons _ _ _ _ (.one _ _ (.bool _)) SnapL.nil))))
     ·(apply est (u := .agg [.int _ _, .int _ _, .int _ _, .int _ _, .str _]) j3; exact Q0; exact Q8; exact j4; exact kb; rfl)
      (apply D2 (vs := [.int _ _, .int _ _, .int _ _, .int _ _, .str _]) j2; exact Q0; exact Q8; rfl; exact kb; rfl)
      (apply est (u := .agg [.int _ _, .int _ _, .int _ _, .int _ _, .str _]) j3; exact Q0; exact Q8; exact j4; exact kb; rfl)
      (apply D2 (vs := [.bool _, .int _ _, .int _ _, .int _ _, .int _ _, .str _, _]) j2; exact Q0; exact Q8; rfl; exact kb; rfl)
      (apply est (u := .agg [.bool _, .int _ _, .int _ _, .int _ _, .int _ _, .str _, _]) j3; exact Q0; exact Q8; exact j4; exact kb; rfl)
      refine F6 ?_
      have hxi : (⟨false, rqR (rbQ p), rgs p i⟩ : Bt) = rbL p := by unfold rbL; rw [← hie]
      have hk := rb_ok h1_1 h4_1 h6_6
      rw [show rbX p = rbL p from (if_neg h1_1).trans ((if_neg h4_1).trans (if_neg h6_6))]
      first
      | (rw [decide_eq_true (hk.2 ⟨of_decide_eq_true h14_9, by rw [← hxi]; exact h16_4⟩)]; (rw [← hxi]; refine C7 [b] (A0 (A2 rfl (by exact Q0) j2 kb rfl) (A0 rfl A1)) ?_; exact (SnapL.cons _ _ _ _ (SnapC.agg (.cons _ _ _ _ (.bool _) (.cons _ _ _ _ (.int _ _) (.cons _ _ _ _ (.int _ _) (.cons _ _ _ _ (.int _ _) (.cons _ _ _ _ (.int _ _) (.cons _ _ _ _ (.str _) (.cons _ _ _ _ (.weak _ _ (A3 (b := ⟨(rgs p i).map Rg.V, 3, 273⟩) ((rgs p i).map Rg.T) (List.mem_singleton.2 rfl) (by exact Q0) (G4 _).symm (by rw [List.length_map]; exact hrl.symm))) .nil)))))))) (SnapL.cons _ _ _ _ (.one _ _ (.bool _)) SnapL.nil))))
      | (rw [decide_eq_false (fun e => h16_4 (by rw [hxi]; exact (hk.1 e).2))]; (rw [← hxi]; refine C7 [b] (A0 (A2 rfl (by exact Q0) j2 kb rfl) (A0 rfl A1)) ?_; exact (SnapL.cons _ _ _ _ (SnapC.agg (.cons _ _ _ _ (.bool _) (.cons _ _ _ _ (.int _ _) (.cons _ _ _ _ (.int _ _) (.cons _ _ _ _ (.int _ _) (.cons _ _ _ _ (.int _ _) (.cons _ _ _ _ (.str _) (.cons _ _ _ _ (.weak _ _ (A3 (b := ⟨(rgs p i).map Rg.V, 3, 273⟩) ((rgs p i).map Rg.T) (List.mem_singleton.2 rfl) (by exact Q0) (G4 _).symm (by rw [List.length_map]; exact hrl.symm))) .nil)))))))) (SnapL.cons _ _ _ _ (.one _ _ (.bool _)) SnapL.nil))))
      | (rw [decide_eq_false (fun e => absurd (hk.1 e).1 (of_decide_eq_false h14_9))]; (rw [← hxi]; refine C7 [b] (A0 (A2 rfl (by exact Q0) j2 kb rfl) (A0 rfl A1)) ?_; exact (SnapL.cons _ _ _ _ (SnapC.agg (.cons _ _ _ _ (.bool _) (.cons _ _ _ _ (.int _ _) (.cons _ _ _ _ (.int _ _) (.cons _ _ _ _ (.int _ _) (.cons _ _ _ _ (.int _ _) (.cons _ _ _ _ (.str _) (.cons _ _ _ _ (.weak _ _ (A3 (b := ⟨(rgs p i).map Rg.V, 3, 273⟩) ((rgs p i).map Rg.T) (List.mem_singleton.2 rfl) (by exact Q0) (G4 _).symm (by rw [List.length_map]; exact hrl.symm))) .nil)))))))) (SnapL.cons _ _ _ _ (.one _ _ (.bool _)) SnapL.nil))))
open Go.V
set_option linter.unusedVariables false
set_option linter.unusedSimpArgs false
set_option maxRecDepth 20000
set_option maxHeartbeats 4000000
theorem r74 (n : Int) (hn : nodes n) (p : ByteArray) (hp : p.size ≤ 1000000) : Pure En 74 [.one (.int .i64 n), .one (.str p)] [.one (.bool (decide (bodyOK rdM n p)))] := by
 refine Pure.of_ev (st := []) Tryz.func74 rfl kb ?_
 refine C8 (r151 p hp) rfl rfl rfl ?_
 refine brB ?_ ?_ <;> intro h1_4
 ·(apply est (u := .agg [.bool _, .int _ _, .int _ _, .int _ _, .int _ _, .str _, _]) j3; exact Q0; exact Q8; exact j4; exact kb; rfl)
  refine A4 ?_ (by exact Q0) (by exact Q8)
  refine brB ?_ ?_ <;> intro h4_1
  ·have hb := of_decide_eq_true h1_4
   exact B4 rfl ⟨hb, .inl (by rw [← X3 hb]; exact h4_1)⟩
  ·refine A4 ?_ (by exact Q0) (by exact Q8)
   refine eclX (r152 n hn (rbX p).rs false) rfl j2 ?_
   rintro tt h6_3
   try dsimp only at h6_3
   refine brB ?_ ?_ <;> intro h6_6
   ·have hb := of_decide_eq_true h1_4
    first
    | exact B4 rfl ⟨hb, .inr (by rw [← X3 hb]; exact of_decide_eq_true h6_6)⟩
    | exact B3 rfl fun e => e.2.elim (fun q => by rw [← X3 hb, h4_1] at q; cases q) (fun q => (of_decide_eq_false h6_6) (by rw [X3 hb]; exact q))
   ·have hb := of_decide_eq_true h1_4
    first
    | exact B4 rfl ⟨hb, .inr (by rw [← X3 hb]; exact of_decide_eq_true h6_6)⟩
    | exact B3 rfl fun e => e.2.elim (fun q => by rw [← X3 hb, h4_1] at q; cases q) (fun q => (of_decide_eq_false h6_6) (by rw [X3 hb]; exact q))
 ·(apply est (u := .agg [.bool _, .int _ _, .int _ _, .int _ _, .int _ _, .str _, _]) j3; exact Q0; exact Q8; exact j4; exact kb; rfl)
  exact B3 rfl fun e => (of_decide_eq_false h1_4) e.1
open Go.V
set_option linter.unusedVariables false
set_option linter.unusedSimpArgs false
set_option maxRecDepth 20000
set_option maxHeartbeats 4000000
noncomputable instance dcCk (n : Int) (c : Ct) : Decidable (ctOK mk bare rdM dgB n c) := Classical.propDecidable _
theorem r76 (n : Int) (hn : nodes n) (c : Ct) (b : Bool) : Pure En 76 [.one (.int .i64 n), .agg (c.T b)] [.one (.bool (decide (ctOK mk bare rdM dgB n c)))] := by
 have hl : (c.ps.map Msg.T).length = c.ps.length := List.length_map ..
 have hq := K5 hn
 refine Pure.of_ev (st := []) Tryz.func76 rfl kb ?_
 refine A4 ?_ (by exact Q0) (by exact Q8)
 refine C8 (r59 n hn) rfl rfl rfl ?_
 refine br ?_ ?_ <;> intro h1_5
 ·refine B3 rfl ?_
  rintro ⟨q1, q2, q3, _⟩
  first
  | omega
  | exact h1_16 q3
 ·refine A4 ?_ (by exact Q0) (by exact Q8)
  refine br ?_ ?_ <;> intro h1_10
  ·refine B3 rfl ?_
   rintro ⟨q1, q2, q3, _⟩
   first
   | omega
   | exact h1_16 q3
  ·refine A4 ?_ (by exact Q0) (by exact Q8)
   refine B6 (r74 n hn c.bd (by omega)) rfl j2 ?_ ?_ <;> intro h1_16
   ·refine A9 (fun (a : Nat × Nat) => [.int .i64 n, .unk, .unk, .ptr 0 0 0, .unk, .int .i64 a.1]) (fun (a : Nat × Nat) => hp [(0, ⟨[[.str c.bd, .sl false b (c.ps.map Msg.T)]], 2, 44⟩)]) (fun (a : Nat × Nat) => a.2) (fun (a : Nat × Nat) => a.1 ≤ c.ps.length ∧ 1 ≤ a.2 ∧ ∀ j, j < a.1 → pOK mk bare dgB n c j) (fun (a : Nat × Nat) => c.ps.length - a.1) (0, 1) ?_ ?_ ?_ ?_ ?_
    ·exact ⟨Nat.zero_le _, Nat.le_refl _, S9⟩
    ·(repeat first | exact LE.nil _ | refine LE.unk _ _ ?_ | refine LE.eq _ _ _ rfl ?_)
    ·(repeat first | exact B8 | (refine C0 ?_ ?_; (first | exact Q0 | fail)))
    ·exact Nat.le_refl _
    intro ⟨i, m⟩ hI ih
    obtain ⟨q0, q1, q2⟩ := hI
    dsimp only at q0 q1 q2 ⊢
    refine A7 (st := []) ?_
    refine A4 ?_ (by exact Q0) (by exact Q8)
    refine br ?_ ?_ <;> intro h4_4
    ·refine A4 ?_ (by exact Q0) (by exact Q8)
     (refine C2 (D7 (by first | rfl | assumption | exact Q39) rfl ?_))
     (apply est (u := .agg [.int _ _, .int _ _, .int _ _, .int _ _, .str _, .str _, .str _]) j3; exact Q0; exact Q8; exact j4; exact kb; rfl)
     refine A4 ?_ (by exact Q0) (by exact Q8)
     refine br ?_ ?_ <;> intro h7_2
     ·refine B3 rfl (fun e => ?_)
      obtain ⟨e1, e2, e3, e4, e5, e6⟩ := e.2.2.2 i (by omega)
      first
      | omega
      | exact h7_6 e2
      | exact h7_15 e3
      | (have := e6 (by omega); omega)
     ·(apply D2 (vs := [.int _ _, .int _ _, .int _ _, .int _ _, .str _, .str _, .str _]) j2; exact Q0; exact Q8; rfl; exact kb; rfl)
      refine B6 (r93 n (c.ps.getD i Msg0)) rfl j2 ?_ ?_ <;> intro h7_6
      ·refine A4 ?_ (by exact Q0) (by exact Q8)
       refine A4 ?_ (by exact Q0) (by exact Q8)
       refine C8 (r153 c.bd (by omega)) rfl rfl rfl ?_
       refine br ?_ ?_ <;> intro h7_15
       ·refine B3 rfl (fun e => ?_)
        obtain ⟨e1, e2, e3, e4, e5, e6⟩ := e.2.2.2 i (by omega)
        first
        | omega
        | exact h7_6 e2
        | exact h7_15 e3
        | (have := e6 (by omega); omega)
       ·refine A4 ?_ (by exact Q0) (by exact Q8)
        refine A4 ?_ (by exact Q0) (by exact Q8)
        (refine C2 (D7 (by first | rfl | assumption | exact Q39) rfl ?_))
        refine br ?_ ?_ <;> intro h7_25
        ·refine B3 rfl (fun e => ?_)
         obtain ⟨e1, e2, e3, e4, e5, e6⟩ := e.2.2.2 i (by omega)
         first
         | omega
         | exact h7_6 e2
         | exact h7_15 e3
         | (have := e6 (by omega); omega)
        ·refine A4 ?_ (by exact Q0) (by exact Q8)
         refine A4 ?_ (by exact Q0) (by exact Q8)
         (refine C2 (D7 (by first | rfl | assumption | exact Q39) rfl ?_))
         refine br ?_ ?_ <;> intro h7_35
         ·refine B3 rfl (fun e => ?_)
          obtain ⟨e1, e2, e3, e4, e5, e6⟩ := e.2.2.2 i (by omega)
          first
          | omega
          | exact h7_6 e2
          | exact h7_15 e3
          | (have := e6 (by omega); omega)
         ·refine br ?_ ?_ <;> intro h7_39
          ·refine A4 ?_ (by exact Q0) (by exact Q8)
           refine B7 ?_
           (refine C2 (D7 (by first | rfl | assumption | exact Q39) rfl ?_))
           refine A4 ?_ (by exact Q0) (by exact Q8)
           refine br ?_ ?_ <;> intro h7_50
           ·refine B3 rfl (fun e => ?_)
            obtain ⟨e1, e2, e3, e4, e5, e6⟩ := e.2.2.2 i (by omega)
            first
            | omega
            | exact h7_6 e2
            | exact h7_15 e3
            | (have := e6 (by omega); omega)
           ·refine B7 ?_
            exact C6 (ih (i + 1, m + 1) ⟨by dsimp only; omega, by dsimp only; omega, U5 q2 ⟨by omega, h7_6, Classical.not_not.1 h7_15, by omega, by omega, fun _ => by omega⟩⟩ (by dsimp only; omega)) (by (repeat first | exact LE.nil _ | refine LE.unk _ _ ?_ | refine LE.eq _ _ _ rfl ?_)) (by (repeat first | exact B8 | (refine C0 ?_ ?_; (first | exact Q0 | fail)))) (Nat.le_refl _)
          ·refine B7 ?_
           exact C6 (ih (i + 1, m + 1) ⟨by dsimp only; omega, by dsimp only; omega, U5 q2 ⟨by omega, h7_6, Classical.not_not.1 h7_15, by omega, by omega, fun _ => by omega⟩⟩ (by dsimp only; omega)) (by (repeat first | exact LE.nil _ | refine LE.unk _ _ ?_ | refine LE.eq _ _ _ rfl ?_)) (by (repeat first | exact B8 | (refine C0 ?_ ?_; (first | exact Q0 | fail)))) (Nat.le_refl _)
      ·refine B3 rfl (fun e => ?_)
       obtain ⟨e1, e2, e3, e4, e5, e6⟩ := e.2.2.2 i (by omega)
       first
       | omega
       | exact h7_6 e2
       | exact h7_15 e3
       | (have := e6 (by omega); omega)
    ·exact B4 rfl ⟨by omega, by omega, h1_16, fun j hj => q2 j (by omega)⟩
   ·refine B3 rfl ?_
    rintro ⟨q1, q2, q3, _⟩
    first
    | omega
    | exact h1_16 q3
open Go.V
set_option linter.unusedVariables false
set_option linter.unusedSimpArgs false
set_option maxRecDepth 20000
set_option maxHeartbeats 4000000
structure XS where
 i : Nat
 b : Nat
 m : Nat
 g : Heap
structure XI (n : Int) (m : Msg) (l : List ByteArray) (a : XS) : Prop where
 il : a.i ≤ l.length
 g0 : a.g 0 = some ⟨[m.V], 7, 37⟩
 out : a.g a.b = some ⟨(vcL l a.i).map Ct.V, 2, 44⟩
 bm : 1 ≤ a.b ∧ a.b < a.m
 vc : VC n m.vw l a.i (vcL l a.i)
theorem r77 (n : Int) (hn : nodes n) (m : Msg) : Pure En 77 [.one (.int .i64 n), .agg m.T] [.one (.sl false ((vcO n m).map (Ct.T false))), .one (.bool (decide (okV n m)))] := by
 refine Pure.of_ev (st := [9]) Tryz.func77 rfl kb ?_
 refine A4 ?_ (by exact Q0) (by exact N8)
 refine br ?_ ?_ <;> intro h1_2
 ·refine D3 (es := []) j4 kz kb rfl rfl ?_
  have hno : ¬ okV n m := by
   rintro ⟨q0, out, q1, q2, q3, _⟩
   first
   | omega
   | exact h1_6 q3
  rw [show vcO n m = [] from if_neg hno, decide_eq_false hno]
  refine C7 [1] (A0 rfl (A0 rfl A1)) ?_
  exact (SnapL.cons _ _ _ _ (.one _ _ (.weak _ _ (A3 (b := ⟨[], 2, 44⟩) [] (List.mem_singleton.2 rfl) (by exact Q0) rfl rfl))) (SnapL.cons _ _ _ _ (.one _ _ (.bool _)) SnapL.nil))
 ·(apply D2 (vs := [.int _ _, .int _ _, .int _ _, .int _ _, .str _, .str _, .str _]) j2; exact Q0; exact N8; rfl; exact kb; rfl)
  refine B6 (r93 n m) rfl j2 ?_ ?_ <;> intro h1_6
  ·refine A4 ?_ (by exact Q0) (by exact N8)
   refine br ?_ ?_ <;> intro h1_12
   ·refine D3 (es := []) j4 kz kb rfl rfl ?_
    have hno : ¬ okV n m := by
     rintro ⟨q0, out, q1, q2, q3, _⟩
     first
     | omega
     | exact h1_6 q3
    rw [show vcO n m = [] from if_neg hno, decide_eq_false hno]
    refine C7 [1] (A0 rfl (A0 rfl A1)) ?_
    exact (SnapL.cons _ _ _ _ (.one _ _ (.weak _ _ (A3 (b := ⟨[], 2, 44⟩) [] (List.mem_singleton.2 rfl) (by exact Q0) rfl rfl))) (SnapL.cons _ _ _ _ (.one _ _ (.bool _)) SnapL.nil))
   ·have hsz : m.bd.size ≤ 1000000 := by have := h1_6.1.2.2.2.2.1; omega
    refine A4 ?_ (by exact Q0) (by exact N8)
    refine C8 (r154 m.bd hsz) rfl rfl rfl ?_
    refine brB ?_ ?_ <;> intro h3_5
    ·refine br ?_ ?_ <;> intro h4_5
     ·refine D3 (es := []) j4 kz kb rfl rfl ?_
      have hno : ¬ okV n m := by
       rintro ⟨_, out, _, _, _, l, e, h8, _⟩
       have el : lsO m.bd = l := by unfold lsO; rw [e]
       first
       | (rw [← el] at h8; rw [List.length_map] at h4_5; omega)
       | (rw [e] at h3_5; cases h3_5)
      rw [show vcO n m = [] from if_neg hno, decide_eq_false hno]
      refine C7 [1] (A0 rfl (A0 rfl A1)) ?_
      exact (SnapL.cons _ _ _ _ (.one _ _ (.weak _ _ (A3 (b := ⟨[], 2, 44⟩) [] (List.mem_singleton.2 rfl) (by exact Q0) rfl rfl))) (SnapL.cons _ _ _ _ (.one _ _ (.bool _)) SnapL.nil))
     ·have hls := I4 h3_5
      have hl : ((lsO m.bd).map tT).length = (lsO m.bd).length := List.length_map ..
      refine D3 (es := []) j4 kz kb rfl rfl ?_
      refine U7 fun g0 hg0 => ?_
      refine A9 (fun (a : XS) => [.int .i64 n, .unk, .unk, .ptr 0 0 0, .unk, .unk, .sl true false ((lsO m.bd).map tT), .unk, .view a.b 0 a.i, .int .i64 a.i]) (fun (a : XS) => a.g) (fun (a : XS) => a.m) (fun (a : XS) => XI n m (lsO m.bd) a) (fun (a : XS) => (lsO m.bd).length - a.i) ⟨0, 1, 2, g0⟩ ?_ ?_ ?_ ?_ ?_
      ·refine ⟨Nat.zero_le _, ?_, ?_, ⟨by dsimp only; omega, by dsimp only; omega⟩, .nil⟩
       ·dsimp only; rw [hg0]; exact Q0
       ·dsimp only; rw [hg0]; exact Q0
      ·(repeat first | exact LE.nil _ | refine LE.unk _ _ ?_ | refine LE.eq _ _ _ rfl ?_)
      ·exact LessH.refl _
      ·exact Nat.le_refl _
      intro ⟨i, b, m1, g⟩ hI ih
      have q0 := hI.il
      have hg0 := hI.g0
      have hgb := hI.out
      have hbm := hI.bm
      unfold Msg.V at hg0
      dsimp only at q0 hg0 hgb hbm ⊢
      have hrl := vcL_len (lsO m.bd) i
      refine A7 (st := [9]) ?_
      refine br ?_ ?_ <;> intro h8_3
      ·(refine C2 (D7 (by first | rfl | assumption | exact Q41) rfl ?_))
       refine C8 (r155 ((lsO m.bd).getD i ⟨#[]⟩) (by have := lsC_short hls _ (I3 (i := i) (by omega)); omega)) rfl rfl rfl ?_
       refine brB ?_ ?_ <;> intro h10_7
       ·(apply est (u := .agg [.str _, _]) j3; exact Q0; exact N8; exact j4; exact kb; rfl)
        (apply D2 (vs := [.str _, _]) j2; exact Q0; exact N8; rfl; exact kb; rfl)
        refine B6 (r76 n hn (ctX ((lsO m.bd).getD i ⟨#[]⟩)) false) rfl j2 ?_ ?_ <;> intro h11_5
        ·refine A4 ?_ (by exact Q0) (by exact N8)
         (refine C2 (D7 (by first | rfl | assumption | exact Q41) rfl ?_))
         refine A4 ?_ (by exact Q0) (by exact N8)
         refine br ?_ ?_ <;> intro h11_16
         ·refine D3 (es := []) j4 kz kb rfl rfl ?_
          have hno : ¬ okV n m := H7 hls hI.vc (i := i) (by omega) (by
           rintro c ⟨e1, e2, e3, e4⟩
           have ec : (ctX ((lsO m.bd).getD i ⟨#[]⟩)) = c := by unfold ctX; rw [e1]
           unfold Ct.vw at e3
           first
           | (rw [e1] at h10_7; cases h10_7; done)
           | exact h11_5 (by rw [ec]; exact e2)
           | (rw [ec] at h11_16; omega)
           | (have q := e4 (fun e => by rw [e] at hrl; simp at hrl; omega); (try dsimp only at q); rw [hrl] at q; unfold Ct.sq at q; rw [ec] at h11_36; omega))
          rw [show vcO n m = [] from if_neg hno, decide_eq_false hno]
          refine C7 [m1 + 1] (A0 rfl (A0 rfl A1)) ?_
          exact (SnapL.cons _ _ _ _ (.one _ _ (.weak _ _ (A3 (b := ⟨[], 2, 44⟩) [] (List.mem_singleton.2 rfl) (by exact Q0) rfl rfl))) (SnapL.cons _ _ _ _ (.one _ _ (.bool _)) SnapL.nil))
         ·refine br ?_ ?_ <;> intro h11_20
          ·refine B7 ?_
           (refine mem (by exact Q0) ⟨rfl, C2 ?_⟩)
           refine A4 ?_ (by exact Q0) (by exact N8)
           (refine C2 (D7 (by first | rfl | assumption | exact Q41) rfl ?_))
           refine A4 ?_ (by exact Q0) (by exact N8)
           (refine C2 (D7 (by first | rfl | assumption | exact Q41) rfl ?_))
           refine br ?_ ?_ <;> intro h11_36
           ·refine D3 (es := []) j4 kz kb rfl rfl ?_
            have hno : ¬ okV n m := H7 hls hI.vc (i := i) (by omega) (by
             rintro c ⟨e1, e2, e3, e4⟩
             have ec : (ctX ((lsO m.bd).getD i ⟨#[]⟩)) = c := by unfold ctX; rw [e1]
             unfold Ct.vw at e3
             first
             | (rw [e1] at h10_7; cases h10_7; done)
             | exact h11_5 (by rw [ec]; exact e2)
             | (rw [ec] at h11_16; omega)
             | (have q := e4 (fun e => by rw [e] at hrl; simp at hrl; omega); (try dsimp only at q); rw [hrl] at q; unfold Ct.sq at q; rw [ec] at h11_36; omega))
            rw [show vcO n m = [] from if_neg hno, decide_eq_false hno]
            refine C7 [m1 + 1] (A0 rfl (A0 rfl A1)) ?_
            exact (SnapL.cons _ _ _ _ (.one _ _ (.weak _ _ (A3 (b := ⟨[], 2, 44⟩) [] (List.mem_singleton.2 rfl) (by exact Q0) rfl rfl))) (SnapL.cons _ _ _ _ (.one _ _ (.bool _)) SnapL.nil))
           ·(apply D2 (vs := [.str _, _]) j2; exact Q0; exact N8; rfl; exact kb; rfl)
            refine D3 (es := [[.str _, _]]) j4 kz kb rfl rfl ?_
            (apply eap (s' := 40) (es := [[.str _, _]]) rfl rfl; exact Q0; exact j2; exact Q29; exact j2; exact kz; exact H5; exact Q6; exact Q4; exact Q4)
            refine E1 fun G hG => ?_
            refine B7 ?_
            have hvc : vcT mk bare rdM dgB n m.vw (vcL (lsO m.bd) i) ((lsO m.bd).getD i ⟨#[]⟩) (ctX ((lsO m.bd).getD i ⟨#[]⟩)) := ⟨P4 h10_7, h11_5, by unfold Ct.vw; omega, fun hne => by rw [hrl]; have hp : 0 < i := Nat.pos_of_ne_zero (fun e => hne (by rw [← List.length_eq_zero_iff, hrl, e])); unfold Ct.sq; omega⟩
            refine C6 (ih ⟨i + 1, m1 + 1 + 1, m1 + 1 + 1 + 1, G⟩ ⟨by dsimp only; omega, ?_, ?_, ⟨by dsimp only; omega, by dsimp only; omega⟩, Vc.more i _ _ hI.vc (by omega) hvc⟩ (by dsimp only; omega)) (by (repeat first | exact LE.nil _ | refine LE.unk _ _ ?_ | refine LE.eq _ _ _ rfl ?_)) (LessH.refl _) (Nat.le_refl _)
            ·dsimp only; rw [hG]; exact Q0
            ·dsimp only; rw [hG]; show _ = some (Blk.mk ((vcL (lsO m.bd) i ++ [_]).map Ct.V) 2 44); rw [List.map_append]; exact Q0
          ·(apply D2 (vs := [.str _, _]) j2; exact Q0; exact N8; rfl; exact kb; rfl)
           refine D3 (es := [[.str _, _]]) j4 kz kb rfl rfl ?_
           (apply eap (s' := 40) (es := [[.str _, _]]) rfl rfl; exact Q0; exact j2; exact Q29; exact j2; exact kz; exact H5; exact Q6; exact Q4; exact Q4)
           refine E1 fun G hG => ?_
           refine B7 ?_
           have hvc : vcT mk bare rdM dgB n m.vw (vcL (lsO m.bd) i) ((lsO m.bd).getD i ⟨#[]⟩) (ctX ((lsO m.bd).getD i ⟨#[]⟩)) := ⟨P4 h10_7, h11_5, by unfold Ct.vw; omega, fun hne => by rw [hrl]; have hp : 0 < i := Nat.pos_of_ne_zero (fun e => hne (by rw [← List.length_eq_zero_iff, hrl, e])); unfold Ct.sq; omega⟩
           refine C6 (ih ⟨i + 1, m1 + 1 + 1, m1 + 1 + 1 + 1, G⟩ ⟨by dsimp only; omega, ?_, ?_, ⟨by dsimp only; omega, by dsimp only; omega⟩, Vc.more i _ _ hI.vc (by omega) hvc⟩ (by dsimp only; omega)) (by (repeat first | exact LE.nil _ | refine LE.unk _ _ ?_ | refine LE.eq _ _ _ rfl ?_)) (LessH.refl _) (Nat.le_refl _)
           ·dsimp only; rw [hG]; exact Q0
           ·dsimp only; rw [hG]; show _ = some (Blk.mk ((vcL (lsO m.bd) i ++ [_]).map Ct.V) 2 44); rw [List.map_append]; exact Q0
        ·refine D3 (es := []) j4 kz kb rfl rfl ?_
         have hno : ¬ okV n m := H7 hls hI.vc (i := i) (by omega) (by
          rintro c ⟨e1, e2, e3, e4⟩
          have ec : (ctX ((lsO m.bd).getD i ⟨#[]⟩)) = c := by unfold ctX; rw [e1]
          unfold Ct.vw at e3
          first
          | (rw [e1] at h10_7; cases h10_7; done)
          | exact h11_5 (by rw [ec]; exact e2)
          | (rw [ec] at h11_16; omega)
          | (have q := e4 (fun e => by rw [e] at hrl; simp at hrl; omega); (try dsimp only at q); rw [hrl] at q; unfold Ct.sq at q; rw [ec] at h11_36; omega))
         rw [show vcO n m = [] from if_neg hno, decide_eq_false hno]
         refine C7 [m1 + 1] (A0 rfl (A0 rfl A1)) ?_
         exact (SnapL.cons _ _ _ _ (.one _ _ (.weak _ _ (A3 (b := ⟨[], 2, 44⟩) [] (List.mem_singleton.2 rfl) (by exact Q0) rfl rfl))) (SnapL.cons _ _ _ _ (.one _ _ (.bool _)) SnapL.nil))
       ·(apply est (u := .agg [.str _, _]) j3; exact Q0; exact N8; exact j4; exact kb; rfl)
        refine D3 (es := []) j4 kz kb rfl rfl ?_
        have hno : ¬ okV n m := H7 hls hI.vc (i := i) (by omega) (by
         rintro c ⟨e1, e2, e3, e4⟩
         have ec : (ctX ((lsO m.bd).getD i ⟨#[]⟩)) = c := by unfold ctX; rw [e1]
         unfold Ct.vw at e3
         first
         | (rw [e1] at h10_7; cases h10_7; done)
         | exact h11_5 (by rw [ec]; exact e2)
         | (rw [ec] at h11_16; omega)
         | (have q := e4 (fun e => by rw [e] at hrl; simp at hrl; omega); (try dsimp only at q); rw [hrl] at q; unfold Ct.sq at q; rw [ec] at h11_36; omega))
        rw [show vcO n m = [] from if_neg hno, decide_eq_false hno]
        refine C7 [m1 + 1] (A0 rfl (A0 rfl A1)) ?_
        exact (SnapL.cons _ _ _ _ (.one _ _ (.weak _ _ (A3 (b := ⟨[], 2, 44⟩) [] (List.mem_singleton.2 rfl) (by exact Q0) rfl rfl))) (SnapL.cons _ _ _ _ (.one _ _ (.bool _)) SnapL.nil))
      ·have hvw := h1_6.1.2.1.1
       obtain ⟨hyes, he⟩ := okV_yes (by omega) (by omega) ⟨hn, h1_6⟩ hls (by omega) (i := i) (by omega) hI.vc
       rw [he, decide_eq_true hyes]
       exact C7 [b] (A0 rfl (A0 rfl A1)) (SnapL.cons _ _ _ _ (.one _ _ (.weak _ _ (A3 (b := ⟨(vcL (lsO m.bd) i).map Ct.V, 2, 44⟩) ((vcL (lsO m.bd) i).map (Ct.T false)) (List.mem_singleton.2 rfl) (by exact Q0) (rowsC _).symm (by rw [List.length_map]; exact hrl.symm)))) (SnapL.cons _ _ _ _ (.one _ _ (.bool _)) SnapL.nil))
    ·refine D3 (es := []) j4 kz kb rfl rfl ?_
     have hno : ¬ okV n m := by
      rintro ⟨_, out, _, _, _, l, e, h8, _⟩
      have el : lsO m.bd = l := by unfold lsO; rw [e]
      first
      | (rw [← el] at h8; rw [List.length_map] at h4_5; omega)
      | (rw [e] at h3_5; cases h3_5)
     rw [show vcO n m = [] from if_neg hno, decide_eq_false hno]
     refine C7 [1] (A0 rfl (A0 rfl A1)) ?_
     exact (SnapL.cons _ _ _ _ (.one _ _ (.weak _ _ (A3 (b := ⟨[], 2, 44⟩) [] (List.mem_singleton.2 rfl) (by exact Q0) rfl rfl))) (SnapL.cons _ _ _ _ (.one _ _ (.bool _)) SnapL.nil))
  ·refine D3 (es := []) j4 kz kb rfl rfl ?_
   have hno : ¬ okV n m := by
    rintro ⟨q0, out, q1, q2, q3, _⟩
    first
    | omega
    | exact h1_6 q3
   rw [show vcO n m = [] from if_neg hno, decide_eq_false hno]
   refine C7 [1] (A0 rfl (A0 rfl A1)) ?_
   exact (SnapL.cons _ _ _ _ (.one _ _ (.weak _ _ (A3 (b := ⟨[], 2, 44⟩) [] (List.mem_singleton.2 rfl) (by exact Q0) rfl rfl))) (SnapL.cons _ _ _ _ (.one _ _ (.bool _)) SnapL.nil))
open Go.V
set_option linter.unusedVariables false
set_option linter.unusedSimpArgs false
set_option maxRecDepth 20000
set_option maxHeartbeats 4000000
def bdO (s : Pl) (k : Nat) : ByteArray := if (s.B.getD (k + 1) Ct0).ps.length = 0 then ⟨#[]⟩ else (s.B.getD (k + 1) Ct0).bd
def vwO (s : Pl) (k : Nat) : Int := if (s.B.getD (k + 1) Ct0).ps.length = 0 then 0 else (s.B.getD (k + 1) Ct0).vw
def bdL (s : Pl) : List ByteArray := (List.range 8).map (bdO s)
def vwL (s : Pl) : List Int := (List.range 8).map (vwO s)
theorem bdL_at (s : Pl) {x : Int} (h : 1 ≤ x ∧ x ≤ 8) : ((bdL s).map tV)[0 + (x - 1).toNat]? = some (tV (bdO s (x - 1).toNat)) := by
 unfold bdL; rw [List.getElem?_map, List.getElem?_map, List.getElem?_range (by omega), Nat.zero_add]; rfl
theorem vwL_at (s : Pl) {x : Int} (h : 1 ≤ x ∧ x ≤ 8) : ((vwL s).map iV)[0 + (x - 1).toNat]? = some (iV (vwO s (x - 1).toNat)) := by
 unfold vwL; rw [List.getElem?_map, List.getElem?_map, List.getElem?_range (by omega), Nat.zero_add]; rfl
theorem set_range {α : Type} (f g : Nat → α) (j : Nat) (v : α) (hj : j < 8) (h1 : g j = v) (h2 : ∀ k, k < 8 → k ≠ j → g k = f k) : (List.range 8).map g = ((List.range 8).map f).set j v := by
 apply List.ext_getElem?
 intro k
 by_cases hk : k < 8
 ·by_cases e : k = j
  ·subst e; rw [List.getElem?_set_self (by simp; exact hk), List.getElem?_map, List.getElem?_range hk, Option.map_some, h1]
  ·rw [List.getElem?_set_ne (fun q => e q.symm), List.getElem?_map, List.getElem?_map, List.getElem?_range hk, Option.map_some, Option.map_some, h2 k hk e]
 ·rw [List.getElem?_eq_none (by simp; omega), List.getElem?_eq_none (by simp; omega)]
theorem F1 {B : List Ct} {c : Ct} {q k : Nat} (hB : B.length = 9) (hq : q < 9) : (B.set q c).getD k Ct0 = if k = q then c else B.getD k Ct0 := by
 by_cases e : k = q
 ·subst e; rw [if_pos rfl]; simp [hB, hq]
 ·rw [if_neg e]; simp [List.getElem?_set_ne (fun q => e q.symm)]
def PlH (s : Pl) : Prop := ∀ k, 0 < (s.B.getD k Ct0).ps.length → (s.B.getD k Ct0).bd ≠ ⟨#[]⟩
theorem PlH.zero : PlH Pl0 := fun k h => by
 exfalso
 have : (Pl0.B.getD k Ct0) = Ct0 := by
  show (List.replicate 9 Ct0).getD k Ct0 = Ct0
  rw [List.getD_eq_getElem?_getD, List.getElem?_replicate]
  split <;> rfl
 rw [this] at h; exact absurd h (by decide)
theorem PlH.step {s : Pl} {c : Ct} (h : PlH s) (hb : s.B.length = 9) (hc : cG c) (hd : c.bd ≠ ⟨#[]⟩) : PlH (s.step c) := by
 intro k
 unfold Pl.step; dsimp only
 split
 ·rw [F1 hb (by have := hc.2; omega)]
  split
  ·exact fun _ => hd
  ·exact h k
 ·exact h k
theorem PlH.rn {s : Pl} {cs : List Ct} (h : PlH s) (hg : PlG s) (hc : ∀ j, j < cs.length → cG (cs.getD j Ct0)) (hd : ∀ j, j < cs.length → (cs.getD j Ct0).bd ≠ ⟨#[]⟩) : ∀ k, k ≤ cs.length → PlH (rnS s cs k)
 | 0, _ => h
 | k + 1, hk => (PlH.rn h hg hc hd k (by omega)).step (PlG.rn hg hc k (by omega)).len (hc k (by omega)) (hd k (by omega))
theorem VC.bodies {n vw : Int} {l : List ByteArray} {i : Nat} {out : List Ct} (h : VC n vw l i out) : ∀ j, j < i → (out.getD j Ct0).bd ≠ ⟨#[]⟩ := by
 induction h with
 | nil => intro j hj; omega
 | more i out c h hi hc ih =>
  intro j hj
  have hl := h.len
  by_cases e : j < i
  ·have := ih j e
   rwa [show (out ++ [c]).getD j Ct0 = out.getD j Ct0 by simp [List.getElem?_append_left (show j < out.length by omega)]]
  ·rw [show (out ++ [c]).getD j Ct0 = c by simp [show j = out.length by omega]]
   exact fun q => rb_e q hc.2.1.2.2.1.1
theorem O0 (n : Int) (m : Msg) : ∀ j, j < (vcO n m).length → ((vcO n m).getD j Ct0).bd ≠ ⟨#[]⟩ := by
 intro j hj
 by_cases h : okV n m
 ·obtain ⟨hn, out, ho⟩ := h
  have e := (okV_is hn ho).2
  rw [e] at hj ⊢
  obtain ⟨_, _, _, l, _, _, hv⟩ := ho
  exact VC.bodies hv j (by have := hv.len; omega)
 ·rw [show vcO n m = [] from if_neg h] at hj; simp at hj
theorem PlH.pl (n : Int) (L : List Msg) : ∀ i, PlH (plS n L i)
 | 0 => PlH.zero
 | i + 1 => PlH.rn (PlH.pl n L i) (PlG.pl n L i) (C1 n _) (O0 n _) _ (Nat.le_refl _)
theorem V7 {s : Pl} {c : Ct} (hH : PlH s) (hc : cG c) (h : bdO s (c.sq - 1).toNat = ⟨#[]⟩ ∨ vwO s (c.sq - 1).toNat < c.vw) : (s.B.getD c.sq.toNat Ct0).ps.length = 0 ∨ (s.B.getD c.sq.toNat Ct0).vw < c.vw := by
 have e : (c.sq - 1).toNat + 1 = c.sq.toNat := by have := hc.2; omega
 unfold bdO vwO at h
 rw [e] at h
 by_cases q : (s.B.getD c.sq.toNat Ct0).ps.length = 0
 ·exact .inl q
 ·rw [if_neg q, if_neg q] at h
  exact h.elim (fun x => absurd x (hH _ (Nat.pos_of_ne_zero q))) .inr
theorem V8 {s : Pl} {c : Ct} (hc : cG c) (h1 : ¬ bdO s (c.sq - 1).toNat = ⟨#[]⟩) (h2 : ¬ vwO s (c.sq - 1).toNat < c.vw) : ¬ ((s.B.getD c.sq.toNat Ct0).ps.length = 0 ∨ (s.B.getD c.sq.toNat Ct0).vw < c.vw) := by
 have e : (c.sq - 1).toNat + 1 = c.sq.toNat := by have := hc.2; omega
 unfold bdO at h1; unfold vwO at h2
 rw [e] at h1 h2
 by_cases q : (s.B.getD c.sq.toNat Ct0).ps.length = 0
 ·rw [if_pos q] at h1; exact absurd rfl h1
 ·rw [if_neg q] at h2; exact fun x => x.elim q h2
theorem bdL_y {s : Pl} {c : Ct} (hb : s.B.length = 9) (hc : cG c) (h : (s.B.getD c.sq.toNat Ct0).ps.length = 0 ∨ (s.B.getD c.sq.toNat Ct0).vw < c.vw) : bdL (s.step c) = (bdL s).set (c.sq - 1).toNat c.bd := by
 have h2 := hc.2
 refine set_range _ _ _ _ (by omega) ?_ (fun k hk hne => ?_)
 ·have g : (s.step c).B.getD ((c.sq - 1).toNat + 1) Ct0 = c := by rw [H4 h, F1 hb (by omega), if_pos (by omega)]
  unfold bdO; rw [g]; exact if_neg (by have := hc.1; omega)
 ·have g : (s.step c).B.getD (k + 1) Ct0 = s.B.getD (k + 1) Ct0 := by rw [H4 h, F1 hb (by omega), if_neg (by omega)]
  unfold bdO; rw [g]
theorem vwL_y {s : Pl} {c : Ct} (hb : s.B.length = 9) (hc : cG c) (h : (s.B.getD c.sq.toNat Ct0).ps.length = 0 ∨ (s.B.getD c.sq.toNat Ct0).vw < c.vw) : vwL (s.step c) = (vwL s).set (c.sq - 1).toNat c.vw := by
 have h2 := hc.2
 refine set_range _ _ _ _ (by omega) ?_ (fun k hk hne => ?_)
 ·have g : (s.step c).B.getD ((c.sq - 1).toNat + 1) Ct0 = c := by rw [H4 h, F1 hb (by omega), if_pos (by omega)]
  unfold vwO; rw [g]; exact if_neg (by have := hc.1; omega)
 ·have g : (s.step c).B.getD (k + 1) Ct0 = s.B.getD (k + 1) Ct0 := by rw [H4 h, F1 hb (by omega), if_neg (by omega)]
  unfold vwO; rw [g]
theorem K1 {s : Pl} {c : Ct} (h : ¬ ((s.B.getD c.sq.toNat Ct0).ps.length = 0 ∨ (s.B.getD c.sq.toNat Ct0).vw < c.vw)) : bdL (s.step c) = bdL s ∧ vwL (s.step c) = vwL s := by
 constructor
 ·unfold bdL; congr 1; funext k; unfold bdO; rw [I6 h]
 ·unfold vwL; congr 1; funext k; unfold vwO; rw [I6 h]
theorem bdL_0 : bdL Pl0 = List.replicate 8 ⟨#[]⟩ := rfl
theorem vwL_0 : vwL Pl0 = List.replicate 8 0 := rfl
def NM (M : List ByteArray) (i : Nat) : List ByteArray := if M.getD i ⟨#[]⟩ = ⟨#[]⟩ then M.set i nullT else M
def ouE (s : Pl) (i : Nat) : ByteArray := if (s.B.getD (i + 1) Ct0).ps.length = 0 then nullT else (s.B.getD (i + 1) Ct0).bd
theorem NM_len (M : List ByteArray) (i : Nat) : (NM M i).length = M.length := by unfold NM; split; exact List.length_set; rfl
theorem NM_at {s : Pl} (hH : PlH s) {M : List ByteArray} (hl : M.length = 8) {i : Nat} (hi : i < 8) (h : ∀ k, i ≤ k → k < 8 → M.getD k ⟨#[]⟩ = bdO s k) : ((NM M i).map tV)[0 + i]? = some (tV (ouE s i)) := by
 have q := h i (Nat.le_refl _) hi
 rw [Nat.zero_add, List.getElem?_map]
 by_cases e : (s.B.getD (i + 1) Ct0).ps.length = 0
 ·unfold bdO at q; rw [if_pos e] at q
  unfold NM ouE
  rw [if_pos q, if_pos e, List.getElem?_set_self (by omega)]; rfl
 ·unfold bdO at q; rw [if_neg e] at q
  have ne := hH _ (Nat.pos_of_ne_zero e)
  unfold NM ouE
  rw [if_neg (by rw [q]; exact ne), if_neg e, ← q]
  simp [show i < M.length by omega]
theorem NM_tail {s : Pl} {M : List ByteArray} {i : Nat} (h : ∀ k, i ≤ k → k < 8 → M.getD k ⟨#[]⟩ = bdO s k) : ∀ k, i + 1 ≤ k → k < 8 → (NM M i).getD k ⟨#[]⟩ = bdO s k := by
 intro k h1 h2
 unfold NM
 split
 ·rw [← h k (by omega) h2]; simp [List.getElem?_set_ne (show i ≠ k by omega)]
 ·exact h k (by omega) h2
theorem ouP_succ (s : Pl) (i : Nat) : ouP s (i + 1) = ouP s i ++ [ouE s i] := rfl
theorem bdL_get (s : Pl) {k : Nat} (h : k < 8) : (bdL s).getD k ⟨#[]⟩ = bdO s k := by unfold bdL; simp [h]
open Go.V
set_option linter.unusedVariables false
set_option linter.unusedSimpArgs false
set_option maxRecDepth 20000
set_option maxHeartbeats 4000000
def BDB (s : Pl) : Option Blk := some ⟨(bdL s).map tV, 1, 9⟩
def VWB (s : Pl) : Option Blk := some ⟨(vwL s).map iV, 1, 3⟩
structure QJ (n vw : Int) (L : List Msg) (a : QS) : Prop where
 il : a.i ≤ L.length
 g0 : a.g 0 = BDB (plS n L a.i)
 g1 : a.g 1 = VWB (plS n L a.i)
 mm : 2 ≤ a.m
 ok : ∀ j, j < a.i → okP n vw L j
structure RJ (s : Pl) (cs : List Ct) (a : QS) : Prop where
 il : a.i ≤ cs.length
 g0 : a.g 0 = BDB (rnS s cs a.i)
 g1 : a.g 1 = VWB (rnS s cs a.i)
 mm : 2 ≤ a.m
structure UJ where
 i : Nat
 b : Nat
 m : Nat
 M : List ByteArray
 g : Heap
structure UJI (s : Pl) (a : UJ) : Prop where
 il : (a.i : Int) ≤ s.last
 g0 : a.g 0 = some ⟨a.M.map tV, 1, 9⟩
 out : a.g a.b = some ⟨(ouP s a.i).map tV, 1, 9⟩
 bm : 2 ≤ a.b ∧ a.b < a.m
 ml : a.M.length = 8
 mt : ∀ k, a.i ≤ k → k < 8 → a.M.getD k ⟨#[]⟩ = bdO s k
theorem getVm0 {M : List ByteArray} {i : Nat} (h : i < M.length) : (M.map tV)[i]? = some (tV (M.getD i ⟨#[]⟩)) := by simp [h]
theorem r60 (n vw : Int) (hn : nodes n) (L : List Msg) (b : Bool) : Pure En 60 [.one (.int .i64 n), .one (.int .i64 vw), .one (.sl b (L.map Msg.T))] [.one (.sl false ((plO n vw L).map tT)), .one (.bool (decide (planOK n vw L)))] := by
 have hl : (L.map Msg.T).length = L.length := List.length_map ..
 have hq := K5 hn
 refine Pure.of_ev (st := [14, 23, 26]) Tryz.func60 rfl kb ?_
 refine C8 (r59 n hn) rfl rfl rfl ?_
 refine br ?_ ?_ <;> intro h1_4
 ·refine D3 (es := []) j4 kz kb rfl rfl ?_
  have hno : ¬ planOK n vw L := fun e => by have := e.1; omega
  rw [decide_eq_false hno, show plO n vw L = [] from if_neg hno]
  exact C7 [0] (A0 rfl (A0 rfl A1)) (SnapL.cons _ _ _ _ (.one _ _ (.weak _ _ (A3 (b := ⟨[], 1, 9⟩) [] (List.mem_singleton.2 rfl) (by exact Q0) rfl rfl))) (SnapL.cons _ _ _ _ (.one _ _ (.bool _)) SnapL.nil))
 ·refine emk (s' := 16) j6 kz ?_ ?_ ?_
  ·(first | omega | assumption | decide)
  ·(first | omega | assumption | decide)
  refine emk (s' := 8) j6 kz ?_ ?_ ?_
  ·(first | omega | assumption | decide)
  ·(first | omega | assumption | decide)
  refine U7 fun g0 hg0 => ?_
  refine A9 (fun (a : QS) => [.int .i64 n, .int .i64 vw, .sl false b (L.map Msg.T), .unk, .unk, .unk, .unk, .unk, .view 0 0 8, .view 1 0 8, .int .i64 (plS n L a.i).last, .int .i64 a.i]) (fun (a : QS) => a.g) (fun (a : QS) => a.m) (fun (a : QS) => QJ n vw L a) (fun (a : QS) => L.length - a.i) ⟨0, 2, g0⟩ ?_ ?_ ?_ ?_ ?_
  ·refine ⟨Nat.zero_le _, ?_, ?_, Nat.le_refl _, S9⟩
   ·dsimp only; rw [hg0]; show _ = some (Blk.mk ((bdL Pl0).map tV) 1 9); rw [bdL_0, List.map_replicate]; exact Q0
   ·dsimp only; rw [hg0]; show _ = some (Blk.mk ((vwL Pl0).map iV) 1 3); rw [vwL_0, List.map_replicate]; exact Q0
  ·(repeat first | exact LE.nil _ | refine LE.unk _ _ ?_ | refine LE.eq _ _ _ rfl ?_)
  ·exact LessH.refl _
  ·exact Nat.le_refl _
  intro ⟨i, m, g⟩ hI ih
  have q0 := hI.il
  have hg0 := hI.g0
  have hg1 := hI.g1
  have q4 := hI.mm
  have hok := hI.ok
  have ihO := ih
  unfold BDB at hg0
  unfold VWB at hg1
  dsimp only at q0 hg0 hg1 q4 hok ⊢
  refine A7 (st := [14, 23, 26]) ?_
  refine br ?_ ?_ <;> intro h7_3
  ·(refine C2 (D7 (by first | rfl | assumption | exact Q15) rfl ?_))
   refine C8 (r77 n hn (L.getD i Msg0)) rfl rfl rfl ?_
   refine brB ?_ ?_ <;> intro h9_8
   ·(refine C2 (D7 (by first | rfl | assumption | exact Q15) rfl ?_))
    refine br ?_ ?_ <;> intro h10_9
    ·refine D3 (es := []) j4 kz kb rfl rfl ?_
     have hno : ¬ planOK n vw L := fun e => by
      obtain ⟨e1, e2, e3⟩ := e.2 i (by omega)
      first
      | exact absurd e1 (of_decide_eq_false h9_8)
      | omega
      | (have := e3 (by omega); omega)
     rw [decide_eq_false hno, show plO n vw L = [] from if_neg hno]
     exact C7 [m] (A0 rfl (A0 rfl A1)) (SnapL.cons _ _ _ _ (.one _ _ (.weak _ _ (A3 (b := ⟨[], 1, 9⟩) [] (List.mem_singleton.2 rfl) (by exact Q0) rfl rfl))) (SnapL.cons _ _ _ _ (.one _ _ (.bool _)) SnapL.nil))
    ·refine br ?_ ?_ <;> intro h10_13
     ·refine B7 ?_
      (refine C2 (D7 (by first | rfl | assumption | exact Q15) rfl ?_))
      (refine C2 (D7 (by first | rfl | assumption | exact Q15) rfl ?_))
      refine br ?_ ?_ <;> intro h10_26
      ·refine D3 (es := []) j4 kz kb rfl rfl ?_
       have hno : ¬ planOK n vw L := fun e => by
        obtain ⟨e1, e2, e3⟩ := e.2 i (by omega)
        first
        | exact absurd e1 (of_decide_eq_false h9_8)
        | omega
        | (have := e3 (by omega); omega)
       rw [decide_eq_false hno, show plO n vw L = [] from if_neg hno]
       exact C7 [m] (A0 rfl (A0 rfl A1)) (SnapL.cons _ _ _ _ (.one _ _ (.weak _ _ (A3 (b := ⟨[], 1, 9⟩) [] (List.mem_singleton.2 rfl) (by exact Q0) rfl rfl))) (SnapL.cons _ _ _ _ (.one _ _ (.bool _)) SnapL.nil))
      ·have hc8 := J5 n (L.getD i Msg0)
       have hlc : ((vcO n (L.getD i Msg0)).map (Ct.T false)).length = (vcO n (L.getD i Msg0)).length := List.length_map ..
       refine A9 (fun (a : QS) => [.int .i64 n, .int .i64 vw, .sl false b (L.map Msg.T), .unk, .unk, .unk, .unk, .unk, .view 0 0 8, .view 1 0 8, .int .i64 (rnS (plS n L i) (vcO n (L.getD i Msg0)) a.i).last, .int .i64 i, .sl true false ((vcO n (L.getD i Msg0)).map (Ct.T false)), .unk, .int .i64 a.i]) (fun (a : QS) => a.g) (fun (a : QS) => a.m) (fun (a : QS) => RJ (plS n L i) (vcO n (L.getD i Msg0)) a) (fun (a : QS) => (vcO n (L.getD i Msg0)).length - a.i) ⟨0, m, g⟩ ?_ ?_ ?_ ?_ ?_
       ·exact ⟨Nat.zero_le _, hI.g0, hI.g1, hI.mm⟩
       ·(repeat first | exact LE.nil _ | refine LE.unk _ _ ?_ | refine LE.eq _ _ _ rfl ?_)
       ·exact LessH.refl _
       ·exact Nat.le_refl _
       intro ⟨k, m2, g2⟩ hI ih
       have r0 := hI.il
       have hg2 := hI.g0
       have hg3 := hI.g1
       have r4 := hI.mm
       unfold BDB at hg2
       unfold VWB at hg3
       dsimp only at r0 hg2 hg3 r4 ⊢
       have hpg := PlG.rn (PlG.pl n L i) (C1 n (L.getD i Msg0)) k r0
       have hHk := PlH.rn (PlH.pl n L i) (PlG.pl n L i) (C1 n (L.getD i Msg0)) (O0 n (L.getD i Msg0)) k r0
       have hp9 := hpg.len
       refine A7 (st := [14, 23, 26]) ?_
       refine br ?_ ?_ <;> intro h13_3
       ·have hkl : k < (vcO n (L.getD i Msg0)).length := by omega
        have hgd := C1 n (L.getD i Msg0) k hkl
        have hgd2 : 1 ≤ (((vcO n (L.getD i Msg0)).getD k Ct0).ps.getD 0 Msg0).sq ∧ (((vcO n (L.getD i Msg0)).getD k Ct0).ps.getD 0 Msg0).sq ≤ 8 := hgd.2
        (refine C2 (D7 (by first | rfl | assumption | exact Q15) rfl ?_))
        (refine C2 (D7 (by first | rfl | assumption | exact Q15) rfl ?_))
        (apply est (u := .agg [.int _ _, .int _ _, .int _ _, .int _ _, .str _, .str _, .str _]) j3; exact Q0; exact Q5; exact j4; exact kb; rfl)
        refine A4 ?_ (by exact Q0) (by exact Q5)
        refine A4 ?_ (by exact Q0) (by exact Q5)
        refine B7 ?_
        (refine mem (by exact Q0) ⟨rfl, C2 ?_⟩)
        refine A4 ?_ (by exact Q0) (by exact Q5)
        refine br ?_ ?_ <;> intro h17_6
        ·refine A4 ?_ (by exact Q0) (by exact Q5)
         refine B7 ?_
         (refine C2 (D7 (by first | rfl | assumption | exact Q15) rfl ?_))
         (refine mem (by exact Q0) ⟨rfl, C2 ?_⟩)
         (apply est (u := .str _) j3; exact Q0; exact Q5; exact j4; exact kb; rfl)
         refine F6 ?_
         refine A4 ?_ (by exact Q0) (by exact Q5)
         refine B7 ?_
         refine A4 ?_ (by exact Q0) (by exact Q5)
         (refine mem (by exact Q0) ⟨rfl, C2 ?_⟩)
         (apply est (u := .int _ _) j3; exact Q0; exact Q5; exact j4; exact kb; rfl)
         refine E1 fun G hG => ?_
         refine B7 ?_
         refine C6 (ih ⟨k + 1, m2 + 1, G⟩ ⟨by dsimp only; omega, ?_, ?_, by dsimp only; omega⟩ (by dsimp only; omega)) (by (repeat first | exact LE.nil _ | refine LE.unk _ _ ?_ | refine LE.eq _ _ _ rfl ?_)) (LessH.refl _) (Nat.le_refl _)
         ·dsimp only
          show G 0 = some ⟨(bdL ((rnS (plS n L i) (vcO n (L.getD i Msg0)) k).step ((vcO n (L.getD i Msg0)).getD k Ct0))).map tV, 1, 9⟩
          first
          | (have hu := V7 hHk hgd (by first | exact .inl h17_6 | exact .inr h17_16)
             rw [bdL_y hp9 hgd hu, List.map_set, hG]; (simp (disch := omega) only [↓app0, ↓appC, ↓updS, ↓updN]); rw [Nat.zero_add]; rfl)
          | (rw [(K1 (V8 hgd h17_6 h17_16)).1, hG]; exact Q0)
         ·dsimp only
          show G 1 = some ⟨(vwL ((rnS (plS n L i) (vcO n (L.getD i Msg0)) k).step ((vcO n (L.getD i Msg0)).getD k Ct0))).map iV, 1, 3⟩
          first
          | (have hu := V7 hHk hgd (by first | exact .inl h17_6 | exact .inr h17_16)
             rw [vwL_y hp9 hgd hu, List.map_set, hG]; (simp (disch := omega) only [↓app0, ↓appC, ↓updS, ↓updN]); rw [Nat.zero_add]; rfl)
          | (rw [(K1 (V8 hgd h17_6 h17_16)).2, hG]; exact Q0)
        ·refine A4 ?_ (by exact Q0) (by exact Q5)
         refine A4 ?_ (by exact Q0) (by exact Q5)
         refine B7 ?_
         (refine mem (by exact Q0) ⟨rfl, C2 ?_⟩)
         refine A4 ?_ (by exact Q0) (by exact Q5)
         refine br ?_ ?_ <;> intro h17_16
         ·refine A4 ?_ (by exact Q0) (by exact Q5)
          refine B7 ?_
          (refine C2 (D7 (by first | rfl | assumption | exact Q15) rfl ?_))
          (refine mem (by exact Q0) ⟨rfl, C2 ?_⟩)
          (apply est (u := .str _) j3; exact Q0; exact Q5; exact j4; exact kb; rfl)
          refine F6 ?_
          refine A4 ?_ (by exact Q0) (by exact Q5)
          refine B7 ?_
          refine A4 ?_ (by exact Q0) (by exact Q5)
          (refine mem (by exact Q0) ⟨rfl, C2 ?_⟩)
          (apply est (u := .int _ _) j3; exact Q0; exact Q5; exact j4; exact kb; rfl)
          refine E1 fun G hG => ?_
          refine B7 ?_
          refine C6 (ih ⟨k + 1, m2 + 1, G⟩ ⟨by dsimp only; omega, ?_, ?_, by dsimp only; omega⟩ (by dsimp only; omega)) (by (repeat first | exact LE.nil _ | refine LE.unk _ _ ?_ | refine LE.eq _ _ _ rfl ?_)) (LessH.refl _) (Nat.le_refl _)
          ·dsimp only
           show G 0 = some ⟨(bdL ((rnS (plS n L i) (vcO n (L.getD i Msg0)) k).step ((vcO n (L.getD i Msg0)).getD k Ct0))).map tV, 1, 9⟩
           first
           | (have hu := V7 hHk hgd (by first | exact .inl h17_6 | exact .inr h17_16)
              rw [bdL_y hp9 hgd hu, List.map_set, hG]; (simp (disch := omega) only [↓app0, ↓appC, ↓updS, ↓updN]); rw [Nat.zero_add]; rfl)
           | (rw [(K1 (V8 hgd h17_6 h17_16)).1, hG]; exact Q0)
          ·dsimp only
           show G 1 = some ⟨(vwL ((rnS (plS n L i) (vcO n (L.getD i Msg0)) k).step ((vcO n (L.getD i Msg0)).getD k Ct0))).map iV, 1, 3⟩
           first
           | (have hu := V7 hHk hgd (by first | exact .inl h17_6 | exact .inr h17_16)
              rw [vwL_y hp9 hgd hu, List.map_set, hG]; (simp (disch := omega) only [↓app0, ↓appC, ↓updS, ↓updN]); rw [Nat.zero_add]; rfl)
           | (rw [(K1 (V8 hgd h17_6 h17_16)).2, hG]; exact Q0)
         ·refine E1 fun G hG => ?_
          refine B7 ?_
          refine C6 (ih ⟨k + 1, m2 + 1, G⟩ ⟨by dsimp only; omega, ?_, ?_, by dsimp only; omega⟩ (by dsimp only; omega)) (by (repeat first | exact LE.nil _ | refine LE.unk _ _ ?_ | refine LE.eq _ _ _ rfl ?_)) (LessH.refl _) (Nat.le_refl _)
          ·dsimp only
           show G 0 = some ⟨(bdL ((rnS (plS n L i) (vcO n (L.getD i Msg0)) k).step ((vcO n (L.getD i Msg0)).getD k Ct0))).map tV, 1, 9⟩
           first
           | (have hu := V7 hHk hgd (by first | exact .inl h17_6 | exact .inr h17_16)
              rw [bdL_y hp9 hgd hu, List.map_set, hG]; (simp (disch := omega) only [↓app0, ↓appC, ↓updS, ↓updN]); rw [Nat.zero_add]; rfl)
           | (rw [(K1 (V8 hgd h17_6 h17_16)).1, hG]; exact Q0)
          ·dsimp only
           show G 1 = some ⟨(vwL ((rnS (plS n L i) (vcO n (L.getD i Msg0)) k).step ((vcO n (L.getD i Msg0)).getD k Ct0))).map iV, 1, 3⟩
           first
           | (have hu := V7 hHk hgd (by first | exact .inl h17_6 | exact .inr h17_16)
              rw [vwL_y hp9 hgd hu, List.map_set, hG]; (simp (disch := omega) only [↓app0, ↓appC, ↓updS, ↓updN]); rw [Nat.zero_add]; rfl)
           | (rw [(K1 (V8 hgd h17_6 h17_16)).2, hG]; exact Q0)
       ·refine B7 ?_
        have hip : okP n vw L i := ⟨of_decide_eq_true h9_8, by omega, fun _ => by omega⟩
        obtain rfl : k = (vcO n (L.getD i Msg0)).length := by omega
        refine C6 (ihO ⟨i + 1, m2, g2⟩ ⟨by dsimp only; omega, hI.g0, hI.g1, hI.mm, fun j hj => ?_⟩ (by dsimp only; omega)) (by (repeat first | exact LE.nil _ | refine LE.unk _ _ ?_ | refine LE.eq _ _ _ rfl ?_)) (LessH.refl _) (Nat.le_refl _)
        rcases Nat.lt_succ_iff_lt_or_eq.1 hj with q | q
        ·exact hok j q
        ·rw [q]; exact hip
     ·have hc8 := J5 n (L.getD i Msg0)
      have hlc : ((vcO n (L.getD i Msg0)).map (Ct.T false)).length = (vcO n (L.getD i Msg0)).length := List.length_map ..
      refine A9 (fun (a : QS) => [.int .i64 n, .int .i64 vw, .sl false b (L.map Msg.T), .unk, .unk, .unk, .unk, .unk, .view 0 0 8, .view 1 0 8, .int .i64 (rnS (plS n L i) (vcO n (L.getD i Msg0)) a.i).last, .int .i64 i, .sl true false ((vcO n (L.getD i Msg0)).map (Ct.T false)), .unk, .int .i64 a.i]) (fun (a : QS) => a.g) (fun (a : QS) => a.m) (fun (a : QS) => RJ (plS n L i) (vcO n (L.getD i Msg0)) a) (fun (a : QS) => (vcO n (L.getD i Msg0)).length - a.i) ⟨0, m, g⟩ ?_ ?_ ?_ ?_ ?_
      ·exact ⟨Nat.zero_le _, hI.g0, hI.g1, hI.mm⟩
      ·(repeat first | exact LE.nil _ | refine LE.unk _ _ ?_ | refine LE.eq _ _ _ rfl ?_)
      ·exact LessH.refl _
      ·exact Nat.le_refl _
      intro ⟨k, m2, g2⟩ hI ih
      have r0 := hI.il
      have hg2 := hI.g0
      have hg3 := hI.g1
      have r4 := hI.mm
      unfold BDB at hg2
      unfold VWB at hg3
      dsimp only at r0 hg2 hg3 r4 ⊢
      have hpg := PlG.rn (PlG.pl n L i) (C1 n (L.getD i Msg0)) k r0
      have hHk := PlH.rn (PlH.pl n L i) (PlG.pl n L i) (C1 n (L.getD i Msg0)) (O0 n (L.getD i Msg0)) k r0
      have hp9 := hpg.len
      refine A7 (st := [14, 23, 26]) ?_
      refine br ?_ ?_ <;> intro h13_3
      ·have hkl : k < (vcO n (L.getD i Msg0)).length := by omega
       have hgd := C1 n (L.getD i Msg0) k hkl
       have hgd2 : 1 ≤ (((vcO n (L.getD i Msg0)).getD k Ct0).ps.getD 0 Msg0).sq ∧ (((vcO n (L.getD i Msg0)).getD k Ct0).ps.getD 0 Msg0).sq ≤ 8 := hgd.2
       (refine C2 (D7 (by first | rfl | assumption | exact Q15) rfl ?_))
       (refine C2 (D7 (by first | rfl | assumption | exact Q15) rfl ?_))
       (apply est (u := .agg [.int _ _, .int _ _, .int _ _, .int _ _, .str _, .str _, .str _]) j3; exact Q0; exact Q5; exact j4; exact kb; rfl)
       refine A4 ?_ (by exact Q0) (by exact Q5)
       refine A4 ?_ (by exact Q0) (by exact Q5)
       refine B7 ?_
       (refine mem (by exact Q0) ⟨rfl, C2 ?_⟩)
       refine A4 ?_ (by exact Q0) (by exact Q5)
       refine br ?_ ?_ <;> intro h17_6
       ·refine A4 ?_ (by exact Q0) (by exact Q5)
        refine B7 ?_
        (refine C2 (D7 (by first | rfl | assumption | exact Q15) rfl ?_))
        (refine mem (by exact Q0) ⟨rfl, C2 ?_⟩)
        (apply est (u := .str _) j3; exact Q0; exact Q5; exact j4; exact kb; rfl)
        refine F6 ?_
        refine A4 ?_ (by exact Q0) (by exact Q5)
        refine B7 ?_
        refine A4 ?_ (by exact Q0) (by exact Q5)
        (refine mem (by exact Q0) ⟨rfl, C2 ?_⟩)
        (apply est (u := .int _ _) j3; exact Q0; exact Q5; exact j4; exact kb; rfl)
        refine E1 fun G hG => ?_
        refine B7 ?_
        refine C6 (ih ⟨k + 1, m2 + 1, G⟩ ⟨by dsimp only; omega, ?_, ?_, by dsimp only; omega⟩ (by dsimp only; omega)) (by (repeat first | exact LE.nil _ | refine LE.unk _ _ ?_ | refine LE.eq _ _ _ rfl ?_)) (LessH.refl _) (Nat.le_refl _)
        ·dsimp only
         show G 0 = some ⟨(bdL ((rnS (plS n L i) (vcO n (L.getD i Msg0)) k).step ((vcO n (L.getD i Msg0)).getD k Ct0))).map tV, 1, 9⟩
         first
         | (have hu := V7 hHk hgd (by first | exact .inl h17_6 | exact .inr h17_16)
            rw [bdL_y hp9 hgd hu, List.map_set, hG]; (simp (disch := omega) only [↓app0, ↓appC, ↓updS, ↓updN]); rw [Nat.zero_add]; rfl)
         | (rw [(K1 (V8 hgd h17_6 h17_16)).1, hG]; exact Q0)
        ·dsimp only
         show G 1 = some ⟨(vwL ((rnS (plS n L i) (vcO n (L.getD i Msg0)) k).step ((vcO n (L.getD i Msg0)).getD k Ct0))).map iV, 1, 3⟩
         first
         | (have hu := V7 hHk hgd (by first | exact .inl h17_6 | exact .inr h17_16)
            rw [vwL_y hp9 hgd hu, List.map_set, hG]; (simp (disch := omega) only [↓app0, ↓appC, ↓updS, ↓updN]); rw [Nat.zero_add]; rfl)
         | (rw [(K1 (V8 hgd h17_6 h17_16)).2, hG]; exact Q0)
       ·refine A4 ?_ (by exact Q0) (by exact Q5)
        refine A4 ?_ (by exact Q0) (by exact Q5)
        refine B7 ?_
        (refine mem (by exact Q0) ⟨rfl, C2 ?_⟩)
        refine A4 ?_ (by exact Q0) (by exact Q5)
        refine br ?_ ?_ <;> intro h17_16
        ·refine A4 ?_ (by exact Q0) (by exact Q5)
         refine B7 ?_
         (refine C2 (D7 (by first | rfl | assumption | exact Q15) rfl ?_))
         (refine mem (by exact Q0) ⟨rfl, C2 ?_⟩)
         (apply est (u := .str _) j3; exact Q0; exact Q5; exact j4; exact kb; rfl)
         refine F6 ?_
         refine A4 ?_ (by exact Q0) (by exact Q5)
         refine B7 ?_
         refine A4 ?_ (by exact Q0) (by exact Q5)
         (refine mem (by exact Q0) ⟨rfl, C2 ?_⟩)
         (apply est (u := .int _ _) j3; exact Q0; exact Q5; exact j4; exact kb; rfl)
         refine E1 fun G hG => ?_
         refine B7 ?_
         refine C6 (ih ⟨k + 1, m2 + 1, G⟩ ⟨by dsimp only; omega, ?_, ?_, by dsimp only; omega⟩ (by dsimp only; omega)) (by (repeat first | exact LE.nil _ | refine LE.unk _ _ ?_ | refine LE.eq _ _ _ rfl ?_)) (LessH.refl _) (Nat.le_refl _)
         ·dsimp only
          show G 0 = some ⟨(bdL ((rnS (plS n L i) (vcO n (L.getD i Msg0)) k).step ((vcO n (L.getD i Msg0)).getD k Ct0))).map tV, 1, 9⟩
          first
          | (have hu := V7 hHk hgd (by first | exact .inl h17_6 | exact .inr h17_16)
             rw [bdL_y hp9 hgd hu, List.map_set, hG]; (simp (disch := omega) only [↓app0, ↓appC, ↓updS, ↓updN]); rw [Nat.zero_add]; rfl)
          | (rw [(K1 (V8 hgd h17_6 h17_16)).1, hG]; exact Q0)
         ·dsimp only
          show G 1 = some ⟨(vwL ((rnS (plS n L i) (vcO n (L.getD i Msg0)) k).step ((vcO n (L.getD i Msg0)).getD k Ct0))).map iV, 1, 3⟩
          first
          | (have hu := V7 hHk hgd (by first | exact .inl h17_6 | exact .inr h17_16)
             rw [vwL_y hp9 hgd hu, List.map_set, hG]; (simp (disch := omega) only [↓app0, ↓appC, ↓updS, ↓updN]); rw [Nat.zero_add]; rfl)
          | (rw [(K1 (V8 hgd h17_6 h17_16)).2, hG]; exact Q0)
        ·refine E1 fun G hG => ?_
         refine B7 ?_
         refine C6 (ih ⟨k + 1, m2 + 1, G⟩ ⟨by dsimp only; omega, ?_, ?_, by dsimp only; omega⟩ (by dsimp only; omega)) (by (repeat first | exact LE.nil _ | refine LE.unk _ _ ?_ | refine LE.eq _ _ _ rfl ?_)) (LessH.refl _) (Nat.le_refl _)
         ·dsimp only
          show G 0 = some ⟨(bdL ((rnS (plS n L i) (vcO n (L.getD i Msg0)) k).step ((vcO n (L.getD i Msg0)).getD k Ct0))).map tV, 1, 9⟩
          first
          | (have hu := V7 hHk hgd (by first | exact .inl h17_6 | exact .inr h17_16)
             rw [bdL_y hp9 hgd hu, List.map_set, hG]; (simp (disch := omega) only [↓app0, ↓appC, ↓updS, ↓updN]); rw [Nat.zero_add]; rfl)
          | (rw [(K1 (V8 hgd h17_6 h17_16)).1, hG]; exact Q0)
         ·dsimp only
          show G 1 = some ⟨(vwL ((rnS (plS n L i) (vcO n (L.getD i Msg0)) k).step ((vcO n (L.getD i Msg0)).getD k Ct0))).map iV, 1, 3⟩
          first
          | (have hu := V7 hHk hgd (by first | exact .inl h17_6 | exact .inr h17_16)
             rw [vwL_y hp9 hgd hu, List.map_set, hG]; (simp (disch := omega) only [↓app0, ↓appC, ↓updS, ↓updN]); rw [Nat.zero_add]; rfl)
          | (rw [(K1 (V8 hgd h17_6 h17_16)).2, hG]; exact Q0)
      ·refine B7 ?_
       have hip : okP n vw L i := ⟨of_decide_eq_true h9_8, by omega, fun _ => by omega⟩
       obtain rfl : k = (vcO n (L.getD i Msg0)).length := by omega
       refine C6 (ihO ⟨i + 1, m2, g2⟩ ⟨by dsimp only; omega, hI.g0, hI.g1, hI.mm, fun j hj => ?_⟩ (by dsimp only; omega)) (by (repeat first | exact LE.nil _ | refine LE.unk _ _ ?_ | refine LE.eq _ _ _ rfl ?_)) (LessH.refl _) (Nat.le_refl _)
       rcases Nat.lt_succ_iff_lt_or_eq.1 hj with q | q
       ·exact hok j q
       ·rw [q]; exact hip
   ·refine D3 (es := []) j4 kz kb rfl rfl ?_
    have hno : ¬ planOK n vw L := fun e => by
     obtain ⟨e1, e2, e3⟩ := e.2 i (by omega)
     first
     | exact absurd e1 (of_decide_eq_false h9_8)
     | omega
     | (have := e3 (by omega); omega)
    rw [decide_eq_false hno, show plO n vw L = [] from if_neg hno]
    exact C7 [m] (A0 rfl (A0 rfl A1)) (SnapL.cons _ _ _ _ (.one _ _ (.weak _ _ (A3 (b := ⟨[], 1, 9⟩) [] (List.mem_singleton.2 rfl) (by exact Q0) rfl rfl))) (SnapL.cons _ _ _ _ (.one _ _ (.bool _)) SnapL.nil))
  ·obtain rfl : i = L.length := by omega
   have hpo : planOK n vw L := ⟨by omega, hok⟩
   have hpg := PlG.pl n L L.length
   have hH := PlH.pl n L L.length
   have hlo9 := hpg.lo
   have hhi9 := hpg.hi
   refine D3 (es := []) j4 kz kb rfl rfl ?_
   refine U7 fun g3 hg3 => ?_
   refine A9 (fun (a : UJ) => [.unk, .unk, .unk, .unk, .unk, .unk, .unk, .unk, .view 0 0 8, .unk, .int .i64 (plS n L L.length).last, .unk, .unk, .unk, .unk, .unk, .view a.b 0 a.i, .int .i64 a.i]) (fun (a : UJ) => a.g) (fun (a : UJ) => a.m) (fun (a : UJ) => UJI (plS n L L.length) a) (fun (a : UJ) => (plS n L L.length).last.toNat - a.i) ⟨0, m, m + 1, bdL (plS n L L.length), g3⟩ ?_ ?_ ?_ ?_ ?_
   ·refine ⟨by dsimp only; omega, ?_, ?_, ⟨by dsimp only; omega, by dsimp only; omega⟩, rfl, fun k _ hk => bdL_get _ hk⟩
    ·dsimp only; rw [hg3]; exact Q0
    ·dsimp only; rw [hg3]; exact Q0
   ·(repeat first | exact LE.nil _ | refine LE.unk _ _ ?_ | refine LE.eq _ _ _ rfl ?_)
   ·exact LessH.refl _
   ·exact Nat.le_refl _
   intro ⟨i2, b2, m2, M, g2⟩ hI ih
   have r0 := hI.il
   have hg2 := hI.g0
   have hgo := hI.out
   have r4 := hI.bm
   have hml := hI.ml
   have hmt := hI.mt
   dsimp only at r0 hg2 hgo r4 hml hmt ⊢
   have hrl := L5 (plS n L L.length) i2
   refine A7 (st := [14, 23, 26]) ?_
   refine br ?_ ?_ <;> intro h22_2
   ·(refine mem (by exact Q0) ⟨rfl, C2 ?_⟩)
    refine A4 ?_ (by exact Q0) (by exact Q5)
    refine br ?_ ?_ <;> intro h24_4
    ·(refine mem (by exact Q0) ⟨rfl, C2 ?_⟩)
     (apply est (u := .str _) j3; exact Q0; exact Q5; exact j4; exact kb; rfl)
     refine E1 fun G hG => ?_
     have hG0 : G 0 = some ⟨(NM M i2).map tV, 1, 9⟩ := by
      rw [hG]
      first
      | (rw [show NM M i2 = M.set i2 nullT from if_pos h24_4, List.map_set]; (simp (disch := omega) only [↓app0, ↓appC, ↓updS, ↓updN]); rw [Nat.zero_add]; rfl)
      | (rw [show NM M i2 = M from if_neg h24_4]; exact Q0)
     have hGb : G b2 = some ⟨(ouP (plS n L L.length) i2).map tV, 1, 9⟩ := by rw [hG]; exact Q0
     (refine mem (by exact Q0) ⟨rfl, C2 ?_⟩)
     refine A4 ?_ (by exact Q0) (by exact Q5)
     refine D3 (es := [[.str _]]) j4 kz kb rfl rfl ?_
     (apply eap (s' := 16) (es := [[.str _]]) rfl rfl; exact Q0; exact j2; exact Q29; exact j2; exact kz; exact H5; exact Q6; exact Q4; exact Q4)
     refine E1 fun G2 hG2 => ?_
     refine B7 ?_
     refine C6 (ih ⟨i2 + 1, m2 + 1, m2 + 1 + 1, NM M i2, G2⟩ ⟨by dsimp only; omega, ?_, ?_, ⟨by dsimp only; omega, by dsimp only; omega⟩, (NM_len _ _).trans hml, NM_tail hmt⟩ (by dsimp only; omega)) (by (repeat first | exact LE.nil _ | refine LE.unk _ _ ?_ | refine LE.eq _ _ _ rfl ?_)) (LessH.refl _) (Nat.le_refl _)
     ·dsimp only; rw [hG2]; exact Q0
     ·dsimp only; rw [hG2, ouP_succ, List.map_append]; exact Q0
    ·refine E1 fun G hG => ?_
     have hG0 : G 0 = some ⟨(NM M i2).map tV, 1, 9⟩ := by
      rw [hG]
      first
      | (rw [show NM M i2 = M.set i2 nullT from if_pos h24_4, List.map_set]; (simp (disch := omega) only [↓app0, ↓appC, ↓updS, ↓updN]); rw [Nat.zero_add]; rfl)
      | (rw [show NM M i2 = M from if_neg h24_4]; exact Q0)
     have hGb : G b2 = some ⟨(ouP (plS n L L.length) i2).map tV, 1, 9⟩ := by rw [hG]; exact Q0
     (refine mem (by exact Q0) ⟨rfl, C2 ?_⟩)
     refine A4 ?_ (by exact Q0) (by exact Q5)
     refine D3 (es := [[.str _]]) j4 kz kb rfl rfl ?_
     (apply eap (s' := 16) (es := [[.str _]]) rfl rfl; exact Q0; exact j2; exact Q29; exact j2; exact kz; exact H5; exact Q6; exact Q4; exact Q4)
     refine E1 fun G2 hG2 => ?_
     refine B7 ?_
     refine C6 (ih ⟨i2 + 1, m2 + 1, m2 + 1 + 1, NM M i2, G2⟩ ⟨by dsimp only; omega, ?_, ?_, ⟨by dsimp only; omega, by dsimp only; omega⟩, (NM_len _ _).trans hml, NM_tail hmt⟩ (by dsimp only; omega)) (by (repeat first | exact LE.nil _ | refine LE.unk _ _ ?_ | refine LE.eq _ _ _ rfl ?_)) (LessH.refl _) (Nat.le_refl _)
     ·dsimp only; rw [hG2]; exact Q0
     ·dsimp only; rw [hG2, ouP_succ, List.map_append]; exact Q0
   ·have hek : i2 = (plS n L L.length).last.toNat := by omega
    rw [decide_eq_true hpo, show plO n vw L = ouP (plS n L L.length) i2 from (if_pos hpo).trans (by rw [hek]; congr 1; omega)]
    exact C7 [b2] (A0 rfl (A0 rfl A1)) (SnapL.cons _ _ _ _ (.one _ _ (.weak _ _ (A3 (b := ⟨(ouP (plS n L L.length) i2).map tV, 1, 9⟩) ((ouP (plS n L L.length) i2).map tT) (List.mem_singleton.2 rfl) (by exact Q0) (rowsT _).symm (by rw [List.length_map]; exact hrl.symm)))) (SnapL.cons _ _ _ _ (.one _ _ (.bool _)) SnapL.nil))
open Go.V
set_option linter.unusedVariables false
set_option linter.unusedSimpArgs false
set_option maxRecDepth 20000
set_option maxHeartbeats 4000000
theorem r14 (n vw : Int) (L : List Msg) (b : Bool) : Pure En 14 [.one (.int .i64 n), .one (.int .i64 vw), .one (.sl b (L.map Msg.T))] [.one (.sl false ((pnO n vw L).map tT)), .one (.int .i64 (pnC n vw L))] := by
 have hl : (L.map Msg.T).length = L.length := List.length_map ..
 refine Pure.of_ev (st := []) Tryz.func14 rfl kb ?_
 refine br ?_ ?_ <;> intro h1_2
 ·refine D3 (es := []) j4 kz kb rfl rfl ?_
  have hc : 4096 < L.length := by omega
  rw [show pnC n vw L = 2 from if_pos hc, show pnO n vw L = [] from if_pos hc]
  exact C7 [0] (A0 rfl (A0 rfl A1)) (SnapL.cons _ _ _ _ (.one _ _ (.weak _ _ (A3 (b := ⟨[], 1, 9⟩) [] (List.mem_singleton.2 rfl) (by exact Q0) rfl rfl))) (SnapL.cons _ _ _ _ (.one _ _ (.int _ _)) SnapL.nil))
 ·refine B6 (s49 n) rfl j2 ?_ ?_ <;> intro h3_1
  ·refine B6 (s50 _ _ _) rfl j2 ?_ ?_ <;> intro h3_5
   ·refine C8 (r59 n h3_1) rfl rfl rfl ?_
    refine br ?_ ?_ <;> intro h5_4
    ·refine D3 (es := []) j4 kz kb rfl rfl ?_
     have hc : ¬ 4096 < L.length := by omega
     have hy : nodes n ∧ 1 ≤ vw ∧ vw ≤ 20 := ⟨h3_1, h3_5⟩
     rw [show pnC n vw L = plC n vw L from (if_neg hc).trans (if_pos hy), show pnO n vw L = plO n vw L from (if_neg hc).trans (if_pos hy)]
     have hno : ¬ planOK n vw L := fun e => by have := e.1; omega
     rw [show plC n vw L = 19 from if_neg (fun e => by omega), show plO n vw L = [] from if_neg hno]
     exact C7 [0] (A0 rfl (A0 rfl A1)) (SnapL.cons _ _ _ _ (.one _ _ (.weak _ _ (A3 (b := ⟨[], 1, 9⟩) [] (List.mem_singleton.2 rfl) (by exact Q0) rfl rfl))) (SnapL.cons _ _ _ _ (.one _ _ (.int _ _)) SnapL.nil))
    ·refine C8 (r60 n vw h3_1 L b) rfl rfl rfl ?_
     refine brB ?_ ?_ <;> intro h7_6
     ·have hc : ¬ 4096 < L.length := by omega
      have hy : nodes n ∧ 1 ≤ vw ∧ vw ≤ 20 := ⟨h3_1, h3_5⟩
      rw [show pnC n vw L = plC n vw L from (if_neg hc).trans (if_pos hy), show pnO n vw L = plO n vw L from (if_neg hc).trans (if_pos hy)]
      have hpo : planOK n vw L := of_decide_eq_true h7_6
      rw [show plC n vw L = 0 from (if_pos (by omega)).trans (if_pos hpo)]
      exact E4 rfl rfl
     ·refine D3 (es := []) j4 kz kb rfl rfl ?_
      have hc : ¬ 4096 < L.length := by omega
      have hy : nodes n ∧ 1 ≤ vw ∧ vw ≤ 20 := ⟨h3_1, h3_5⟩
      rw [show pnC n vw L = plC n vw L from (if_neg hc).trans (if_pos hy), show pnO n vw L = plO n vw L from (if_neg hc).trans (if_pos hy)]
      have hno : ¬ planOK n vw L := of_decide_eq_false h7_6
      rw [show plC n vw L = 12 from (if_pos (by omega)).trans (if_neg hno), show plO n vw L = [] from if_neg hno]
      exact C7 [0] (A0 rfl (A0 rfl A1)) (SnapL.cons _ _ _ _ (.one _ _ (.weak _ _ (A3 (b := ⟨[], 1, 9⟩) [] (List.mem_singleton.2 rfl) (by exact Q0) rfl rfl))) (SnapL.cons _ _ _ _ (.one _ _ (.int _ _)) SnapL.nil))
   ·refine D3 (es := []) j4 kz kb rfl rfl ?_
    have hc : ¬ 4096 < L.length := by omega
    have hno : ¬ (nodes n ∧ 1 ≤ vw ∧ vw ≤ 20) := fun e => by
     first
     | exact h3_1 e.1
     | exact h3_5 e.2
    rw [show pnC n vw L = 4 from (if_neg hc).trans (if_neg hno), show pnO n vw L = [] from (if_neg hc).trans (if_neg hno)]
    exact C7 [0] (A0 rfl (A0 rfl A1)) (SnapL.cons _ _ _ _ (.one _ _ (.weak _ _ (A3 (b := ⟨[], 1, 9⟩) [] (List.mem_singleton.2 rfl) (by exact Q0) rfl rfl))) (SnapL.cons _ _ _ _ (.one _ _ (.int _ _)) SnapL.nil))
  ·refine D3 (es := []) j4 kz kb rfl rfl ?_
   have hc : ¬ 4096 < L.length := by omega
   have hno : ¬ (nodes n ∧ 1 ≤ vw ∧ vw ≤ 20) := fun e => by
    first
    | exact h3_1 e.1
    | exact h3_5 e.2
   rw [show pnC n vw L = 4 from (if_neg hc).trans (if_neg hno), show pnO n vw L = [] from (if_neg hc).trans (if_neg hno)]
   exact C7 [0] (A0 rfl (A0 rfl A1)) (SnapL.cons _ _ _ _ (.one _ _ (.weak _ _ (A3 (b := ⟨[], 1, 9⟩) [] (List.mem_singleton.2 rfl) (by exact Q0) rfl rfl))) (SnapL.cons _ _ _ _ (.one _ _ (.int _ _)) SnapL.nil))
open Go.V
set_option linter.unusedVariables false
set_option linter.unusedSimpArgs false
set_option maxRecDepth 20000
set_option maxHeartbeats 4000000
def mkG {α : Type} (f : α → List V) (z : List V) (L : List α) (i : Nat) : List (List V) := (L.take i).map f ++ List.replicate (L.length - i) z
open Go Go.V
set_option linter.unusedVariables false
set_option linter.unusedSimpArgs false
set_option maxRecDepth 20000
inductive TB (B : Nat) : T → Prop
 | bool (b : Bool) : TB B (.bool b)
 | int (k : IntKind) (n : Int) : TB B (.int k n)
 | str (s : ByteArray) (h : s.size ≤ B) : TB B (.str s)
 | sl (nn : Bool) (es : List (List T)) (h : es.length ≤ B) (hs : ∀ e ∈ es, ∀ x ∈ e, TB B x) : TB B (.sl nn es)
def TBs (B : Nat) (e : List T) : Prop := ∀ x ∈ e, TB B x
theorem sh_cons {xs : List T} {s : Sh} {l : List Sh} (h : Shs xs (s :: l)) : ∃ x r, xs = x :: r ∧ HasSh x s ∧ Shs r l := by
 cases h with | cons x _ r _ h hs => exact ⟨x, r, rfl, h, hs⟩
theorem sh_nil {xs : List T} (h : Shs xs []) : xs = [] := by cases h; rfl
theorem sh_int {x : T} {k : IntKind} (h : HasSh x (.int k)) : ∃ n, x = .int k n := by cases h with | int _ n _ => exact ⟨n, rfl⟩
def shByteArray : List Sh := [.str]
def shInt : List Sh := [.int .i64]
def vT {α : Type} (f : α → List T) (a : α) : List V := (f a).map (T.toV true)
theorem snapT {h : Heap} {ids : List Nat} {r : Bool} : ∀ x : T, Snap h ids r (x.toV true) x
 | .bool b => .bool b
 | .int k n => .int k n
 | .str s => .str s
 | .nilp => .nilp
 | .nilf => .nilf
 | .nsl => .nsl
 | .sl nn es => .sl true nn es fun _ => .inl rfl
theorem snapRow {h : Heap} {ids : List Nat} {r : Bool} : ∀ e : List T, SnapC h ids r (e.map (T.toV true)) e
 | [] => .nil
 | x :: e => .cons _ _ _ _ (snapT x) (snapRow e)
open Go Go.V
set_option linter.unusedVariables false
set_option linter.unusedSimpArgs false
set_option maxRecDepth 20000
set_option maxHeartbeats 4000000
def rqWL (r : Rq) : List Int := [IntKind.u8.wrap r.cl] ++ numL r.st 2 ++ [IntKind.u8.wrap r.kd] ++ numL r.le 2 ++ [IntKind.u8.wrap r.nm.size] ++ byt r.nm
theorem rqWL_str (r : Rq) : V.strOw (rqWL r) = rqW r := by
 unfold rqWL rqW
 rw [B5, B5, B5, B5, B5, G6, F8, F8, F8, F8, F8, K4, K4, K4]
theorem P2 (r : Rq) : (rqWL r).length = 7 + r.nm.size := by
 unfold rqWL; simp only [List.length_append, List.length_cons, List.length_nil, A5, C4]
def rgWL (a : Rg) : List Int := [IntKind.u8.wrap a.fr] ++ numL a.vl 4 ++ byt a.mc
def rgsWL : List Rg → List Int
 | [] => []
 | a :: r => rgWL a ++ rgsWL r
theorem rgWL_str (a : Rg) : V.strOw (rgWL a) = rgW a := by
 unfold rgWL rgW
 rw [B5, B5, G6, F8, F8, K4]
theorem rgsWL_str : ∀ L : List Rg, V.strOw (rgsWL L) = rgsW L
 | [] => rfl
 | a :: L => by show V.strOw (rgWL a ++ rgsWL L) = rgW a ++ rgsW L; rw [B5, rgWL_str, rgsWL_str L]
theorem rgsWL_app : ∀ (a b : List Rg), rgsWL (a ++ b) = rgsWL a ++ rgsWL b
 | [], b => rfl
 | s :: r, b => by simp only [List.cons_append, rgsWL, rgsWL_app r b, List.append_assoc]
theorem rgsWL_take {L : List Rg} {i : Nat} (h : i < L.length) : rgsWL (L.take (i + 1)) = rgsWL (L.take i) ++ rgWL (L.getD i Rg0) := by
 have ht : L.take (i + 1) = L.take i ++ [L.getD i Rg0] := by rw [List.take_add_one]; simp [h]
 rw [ht, rgsWL_app]; show _ ++ (rgWL _ ++ []) = _; rw [List.append_nil]
theorem rgsWL_len : ∀ {L : List Rg}, (∀ a ∈ L, a.mc.size = 8) → (rgsWL L).length = 13 * L.length
 | [], _ => rfl
 | a :: L, h => by
  have := rgsWL_len (L := L) fun x hx => h x (List.mem_cons_of_mem _ hx)
  have h8 := h a List.mem_cons_self
  show (rgWL a ++ rgsWL L).length = _
  rw [List.length_append, this]; unfold rgWL
  simp only [List.length_append, List.length_cons, List.length_nil, A5, C4]; omega
def btP (rs : List Rg) (i : Nat) : List Int := [IntKind.u8.wrap (1 + (rs.length : Int))] ++ rgsWL (rs.take i)
def btWL (rq : Rq) (rs : List Rg) : List Int := btP rs rs.length ++ rqWL rq
theorem X4 (rq : Rq) (rs : List Rg) : V.strOw (btWL rq rs) = btW ⟨false, rq, rs⟩ := by
 unfold btWL btP btW
 rw [if_neg (show ¬ (false = true) by decide), B5, B5, List.take_length, rgsWL_str, rqWL_str, F8, K4]
def itWL : List ByteArray → List Int
 | [] => []
 | s :: r => numL s.size 2 ++ byt s ++ itWL r
theorem itWL_str : ∀ L : List ByteArray, V.strOw (itWL L) = itW L
 | [] => rfl
 | a :: L => by show V.strOw (numL a.size 2 ++ byt a ++ itWL L) = Nm a.size 2 ++ a ++ itW L; rw [B5, B5, G6, itWL_str L, F8]
theorem itWL_app : ∀ (a b : List ByteArray), itWL (a ++ b) = itWL a ++ itWL b
 | [], b => rfl
 | s :: r, b => by simp only [List.cons_append, itWL, itWL_app r b, List.append_assoc]
theorem itWL_take {L : List ByteArray} {i : Nat} (h : i < L.length) : itWL (L.take (i + 1)) = itWL (L.take i) ++ numL (L.getD i ⟨#[]⟩).size 2 ++ byt (L.getD i ⟨#[]⟩) := by
 have ht : L.take (i + 1) = L.take i ++ [L.getD i ⟨#[]⟩] := by rw [List.take_add_one]; simp [h]
 rw [ht, itWL_app]; show _ ++ (_ ++ []) = _; rw [List.append_nil, List.append_assoc]
theorem itWL_len : ∀ {L : List ByteArray} {B : Nat}, (∀ s ∈ L, s.size ≤ B) → (itWL L).length ≤ (B + 2) * L.length
 | [], B, _ => Nat.zero_le _
 | a :: L, B, h => by
  have h1 := itWL_len (L := L) (B := B) fun x hx => h x (List.mem_cons_of_mem _ hx)
  have h2 := h a List.mem_cons_self
  show (numL a.size 2 ++ byt a ++ itWL L).length ≤ _
  rw [List.length_append, List.length_append, A5, C4, List.length_cons, Nat.mul_succ]; omega
def lsP (l : List ByteArray) (i : Nat) : List Int := [IntKind.u8.wrap (l.length : Int)] ++ itWL (l.take i)
theorem V9 (l : List ByteArray) : V.strOw (lsP l l.length) = lsW l := by
 unfold lsP lsW
 rw [B5, List.take_length, itWL_str, F8, K4]
def msWL (m : Msg) : List Int := plnL m ++ byt m.mc
theorem msWL_str (m : Msg) : V.strOw (msWL m) = msW m := by unfold msWL msW; rw [B5, plnL_str, G6]
structure LB where
 i : Nat
 b : Nat
 m : Nat
 g : Heap
structure LBI (X : Option Blk) (G : Nat → List (List V)) (sz ty len : Nat) (a : LB) : Prop where
 il : a.i ≤ len
 g0 : a.g 0 = X
 out : a.g a.b = some ⟨G a.i, sz, ty⟩
 bm : 1 ≤ a.b ∧ a.b < a.m
structure LCI (G : Nat → List (List V)) (sz ty len : Nat) (a : LB) : Prop where
 il : a.i ≤ len
 out : a.g a.b = some ⟨G a.i, sz, ty⟩
 bm : a.b < a.m
theorem r280 (r : Rq) (hn : r.nm.size ≤ 1000) : Pure En 280 [.agg r.T] [.one (.sl true ((rqWL r).map bT))] := by
 refine Pure.of_ev (st := []) Tryz.func280 rfl kb ?_
 refine A4 ?_
 refine D3 (es := [[.int _ _]]) j4 kz kb rfl rfl ?_
 refine A4 ?_
 refine C8 (s105 r.st 2 (by decide)) rfl rfl rfl ?_
 (apply eap (s' := 1)  rfl rfl; exact Q0; exact j2; exact Q22; exact j2; exact kz; exact H5; exact Q12; exact Q16; exact Q16)
 refine clr 9 [0, 3, 0, 1, 0, 3, 0, 1, 0] [(3, 5)] j2 (by decide +kernel) ?_ ?_
 ·first | (simp [ClearL, ids]; done) | (simp [ClearL, ids]; omega) | (simp [ClearL, ids, srcIds, Env.eval, put, upd, retV, A.toV, T.toV]; try omega)
 refine A4 ?_
 refine D3 (es := [[.int _ _]]) j4 kz kb rfl rfl ?_
 (apply eap (s' := 1) (es := [[.int _ _]]) rfl rfl; exact Q0; exact j2; exact Q22; exact j2; exact kz; exact H5; exact Q12; exact Q16; exact Q16)
 refine A4 ?_
 refine C8 (s105 r.le 2 (by decide)) rfl rfl rfl ?_
 (apply eap (s' := 1)  rfl rfl; exact Q0; exact j2; exact Q22; exact j2; exact kz; exact H5; exact Q12; exact Q16; exact Q16)
 refine clr 11 [0, 3, 0, 1, 0, 3, 3, 0, 1, 0, 0] [(4, 7), (5, 7)] j2 (by decide +kernel) ?_ ?_
 ·first | (simp [ClearL, ids]; done) | (simp [ClearL, ids]; omega) | (simp [ClearL, ids, srcIds, Env.eval, put, upd, retV, A.toV, T.toV]; try omega)
 refine A4 ?_
 refine D3 (es := [[.int _ _]]) j4 kz kb rfl rfl ?_
 (apply eap (s' := 1) (es := [[.int _ _]]) rfl rfl; exact Q0; exact j2; exact Q22; exact j2; exact kz; exact H5; exact Q12; exact Q16; exact Q16)
 refine A4 ?_
 (apply eap (s' := 1)  rfl rfl; exact Q0; exact j2; exact Q22; exact j2; exact kz; exact H5; exact Q12; exact Q16; exact Q16)
 refine clr 11 [0, 3, 1, 0, 3, 3, 0, 0, 1, 0, 0] [(5, 8), (6, 8)] j2 (by decide +kernel) ?_ ?_
 ·first | (simp [ClearL, ids]; done) | (simp [ClearL, ids]; omega) | (simp [ClearL, ids, srcIds, Env.eval, put, upd, retV, A.toV, T.toV]; try omega)
 refine C7 [8] (A0 rfl A1) (SnapL.cons _ _ _ _ (.one _ _ (N5 (List.mem_singleton.2 rfl) ?_ ?_)) SnapL.nil)
 ·((simp (disch := omega) only [↓app0, ↓appC, ↓updS, ↓updN, ↓hpS, ↓hpN]); exact congrArg (fun z => some (Blk.mk z 1 5)) (by unfold rqWL; simp only [List.map_append, ← bytRows, List.drop_zero, rowsBf]; rfl))
 ·(rw [P2]; exact Q22)
theorem r235 (rq : Rq) (rs : List Rg) (b : Bool) (hq : rq.nm.size ≤ 1000) (h7 : rs.length ≤ 7) (h8 : ∀ a ∈ rs, a.mc.size = 8) : Pure En 235 [.agg (Bt.T b ⟨false, rq, rs⟩)] [.one (.sl true ((btWL rq rs).map bT))] := by
 refine Pure.of_ev (st := [6]) Tryz.func235 rfl kb ?_
 refine A4 ?_ (by exact Q0) (by exact Q8)
 refine brBF ?_
 refine A4 ?_ (by exact Q0) (by exact Q8)
 refine D6 ⟨by (first | omega | (rw [List.length_map]; omega)), by (first | omega | (rw [List.length_map]; omega))⟩ ?_
 refine D3 (es := [[.int _ _]]) j4 kz kb rfl rfl ?_
 refine U7 fun g0 hg0 => ?_
 refine A9 (fun (a : LB) => [.unk, .ptr 0 0 0, .unk, .view a.b 0 (btP rs a.i).length, .int .i64 a.i]) (fun (a : LB) => a.g) (fun (a : LB) => a.m) (fun (a : LB) => LBI (some ⟨[[.bool false, .int .i64 rq.cl, .int .i64 rq.st, .int .i64 rq.kd, .int .i64 rq.le, .str rq.nm, .sl false b (rs.map Rg.T)]], 7, 200⟩) (fun i => (btP rs i).map bV) 1 5 rs.length a) (fun (a : LB) => rs.length - a.i) ⟨0, 1, 2, g0⟩ ?_ ?_ ?_ ?_ ?_
 ·refine ⟨Nat.zero_le _, ?_, ?_, by dsimp only; omega⟩
  ·dsimp only; rw [hg0]; exact Q0
  ·dsimp only; rw [hg0]; (simp (disch := omega) only [↓app0, ↓appC, ↓updS, ↓updN, ↓hpS, ↓hpN]); rw [List.length_map]; rfl
 ·(repeat first | exact LE.nil _ | refine LE.unk _ _ ?_ | refine LE.eq _ _ _ rfl ?_)
 ·exact LessH.refl _
 ·exact Nat.le_refl _
 intro ⟨i, b1, m, g⟩ hI ih
 have q0 := hI.il
 have hg0 := hI.g0
 have hg1 := hI.out
 have q4 := hI.bm
 dsimp only at q0 hg0 hg1 q4 ⊢
 have hrl : (rs.map Rg.T).length = rs.length := List.length_map ..
 have hbl : (btP rs i).length = 1 + 13 * i := by
  unfold btP; rw [List.length_append, rgsWL_len fun a q => h8 a (List.mem_of_mem_take q), List.length_take]; show 1 + _ = _; congr 2; omega
 refine A7 (st := [6]) ?_
 refine A4 ?_ (by exact Q0) (by exact Q8)
 refine br ?_ ?_ <;> intro h5_4
 ·have hm8 : (rs.getD i Rg0).mc.size = 8 := h8 _ (by rw [show rs.getD i Rg0 = rs[i]'(by omega) by simp [show i < rs.length by omega]]; exact List.getElem_mem _)
  refine A4 ?_ (by exact Q0) (by exact Q8)
  (refine sd (by (first | omega | assumption | (rw [List.length_map]; omega))) (D7 (by first | rfl | assumption | (exact B0 Rg.T Rg0 (k := i) (by omega))) rfl ?_))
  refine D3 (es := [[.int _ _]]) j4 kz kb rfl rfl ?_
  (apply eap (s' := 1) (es := [[.int _ _]]) rfl rfl; exact Q0; exact j2; exact Q26; exact j2; exact kz; exact H5; exact Q12; exact Q20; exact Q20)
  refine A4 ?_ (by exact Q0) (by exact Q8)
  (refine sd (by (first | omega | assumption | (rw [List.length_map]; omega))) (D7 (by first | rfl | assumption | (exact B0 Rg.T Rg0 (k := i) (by omega))) rfl ?_))
  refine C8 (s105 (rs.getD i Rg0).vl 4 (by decide)) rfl rfl rfl ?_
  (apply eap (s' := 1)  rfl rfl; exact Q0; exact j2; exact Q26; exact j2; exact kz; exact H5; exact Q12; exact Q20; exact Q20)
  refine clr 19 [0, 3, 0, 0, 0, 0, 0, 1, 0, 3, 3, 0, 0, 0, 0, 0, 1, 0, 0] [(8, 11), (9, 11)] j2 (by decide +kernel) ?_ ?_
  ·first | (simp [ClearL, ids]; done) | (simp [ClearL, ids]; omega) | (simp [ClearL, ids, srcIds, Env.eval, put, upd, retV, A.toV, T.toV]; try omega)
  refine A4 ?_ (by exact Q0) (by exact Q8)
  (refine sd (by (first | omega | assumption | (rw [List.length_map]; omega))) (D7 (by first | rfl | assumption | (exact B0 Rg.T Rg0 (k := i) (by omega))) rfl ?_))
  (apply eap (s' := 1)  rfl rfl; exact Q0; exact j2; exact Q26; exact j2; exact kz; exact H5; exact Q12; exact Q20; exact Q20)
  refine E1 fun GG hGG => ?_
  refine D6 ⟨by (first | omega | (rw [List.length_map]; omega)), by (first | omega | (rw [List.length_map]; omega))⟩ ?_
  have htk := rgsWL_take (L := rs) (i := i) (by omega)
  have hb2 : btP rs (i + 1) = btP rs i ++ ([IntKind.u8.wrap (rs.getD i Rg0).fr] ++ numL (rs.getD i Rg0).vl 4 ++ byt (rs.getD i Rg0).mc) := by unfold btP; rw [htk, List.append_assoc]; rfl
  refine C6 (ih ⟨i + 1, m + 1 + 1 + 1, m + 1 + 1 + 1 + 1, GG⟩ ⟨by dsimp only; omega, ?_, ?_, by dsimp only; omega⟩ (by dsimp only; omega)) (by (repeat first | exact LE.nil _ | refine LE.unk _ _ ?_ | refine LE.eq _ _ _ rfl ?_ | refine LE.eq _ _ _ (congrArg (V.view _ 0) (by (try dsimp only); rw [hb2]; simp only [List.length_append, List.length_drop, List.length_map, List.length_cons, List.length_nil, A5, Nat.sub_zero, Nat.zero_add, D8, D1, Array.length_toList, C4]; (try omega))) ?_)) (LessH.refl _) (Nat.le_refl _)
  ·dsimp only; rw [hGG]; exact Q0
  ·dsimp only; rw [hGG, hb2]; ((simp (disch := omega) only [↓app0, ↓appC, ↓updS, ↓updN, ↓hpS, ↓hpN]); exact congrArg (fun z => some (Blk.mk z 1 5)) (by simp only [List.map_append, ← bytRows, List.drop_zero, rowsBf, List.append_assoc]; rfl))
 ·(apply D2 (vs := [.int _ _, .int _ _, .int _ _, .int _ _, .str _]) j2; exact Q0; exact Q8; rfl; exact kb; rfl)
  refine C8 (r280 rq hq) rfl rfl rfl ?_
  (apply eap (s' := 1)  rfl rfl; exact Q0; exact j2; exact Q26; exact j2; exact kz; exact H5; exact Q12; exact Q20; exact Q20)
  refine C7 [m] (A0 rfl A1) (SnapL.cons _ _ _ _ (.one _ _ (N5 (List.mem_singleton.2 rfl) ?_ ?_)) SnapL.nil)
  ·((simp (disch := omega) only [↓app0, ↓appC, ↓updS, ↓updN, ↓hpS, ↓hpN]); exact congrArg (fun z => some (Blk.mk z 1 5)) (by unfold btWL; rw [show i = rs.length by omega]; simp only [List.map_append, List.drop_zero, rowsBf]; (try rfl)))
  ·(unfold btWL; rw [show i = rs.length by omega]; simp only [List.length_append, List.length_map, List.length_drop]; (try omega))
theorem r146 (l : List ByteArray) (b : Bool) (h7 : l.length ≤ 100) (hs : ∀ s ∈ l, s.size ≤ 20000) : Pure En 146 [.one (.sl b (l.map tT))] [.one (.sl true ((lsP l l.length).map bT))] := by
 refine Pure.of_ev (st := [4]) Tryz.func146 rfl kb ?_
 refine D3 (es := [[.int _ _]]) j4 kz kb rfl rfl ?_
 refine U7 fun g0 hg0 => ?_
 refine A9 (fun (a : LB) => [.sl false b (l.map tT), .unk, .unk, .view a.b 0 (lsP l a.i).length, .int .i64 a.i]) (fun (a : LB) => a.g) (fun (a : LB) => a.m) (fun (a : LB) => LCI (fun i => (lsP l i).map bV) 1 5 l.length a) (fun (a : LB) => l.length - a.i) ⟨0, 0, 1, g0⟩ ?_ ?_ ?_ ?_ ?_
 ·refine ⟨Nat.zero_le _, ?_, by dsimp only; omega⟩
  dsimp only; rw [hg0]; (simp (disch := omega) only [↓app0, ↓appC, ↓updS, ↓updN, ↓hpS, ↓hpN]); rw [List.length_map]; rfl
 ·(repeat first | exact LE.nil _ | refine LE.unk _ _ ?_ | refine LE.eq _ _ _ rfl ?_)
 ·exact LessH.refl _
 ·exact Nat.le_refl _
 intro ⟨i, b1, m, g⟩ hI ih
 have q0 := hI.il
 have hg1 := hI.out
 have q4 := hI.bm
 dsimp only at q0 hg1 q4 ⊢
 have hrl : (l.map tT).length = l.length := List.length_map ..
 have hbl : (lsP l i).length ≤ 1 + 20002 * 100 := by
  have h1 := itWL_len (L := l.take i) (B := 20000) (fun s q => hs s (List.mem_of_mem_take q))
  have h2 : (l.take i).length ≤ 100 := by rw [List.length_take]; omega
  unfold lsP; rw [List.length_append]; show 1 + _ ≤ _; omega
 refine A7 (st := [4]) ?_
 refine br ?_ ?_ <;> intro h3_3
 ·have hz8 : (l.getD i (⟨#[]⟩ : ByteArray)).size ≤ 20000 := hs _ (by rw [show l.getD i (⟨#[]⟩ : ByteArray) = l[i]'(by omega) by simp [show i < l.length by omega]]; exact List.getElem_mem _)
  have hzz : (l.getD ((i : Int)).toNat (⟨#[]⟩ : ByteArray)).size = (l.getD i (⟨#[]⟩ : ByteArray)).size := rfl
  (refine sd (by (first | omega | assumption | (rw [List.length_map]; omega))) (D7 (by first | rfl | assumption | (exact B0 tT (⟨#[]⟩ : ByteArray) (k := i) (by omega))) rfl ?_))
  refine C8 (s105 (l.getD i ⟨#[]⟩).size 2 (by decide)) rfl rfl rfl ?_
  (apply eap (s' := 1)  rfl rfl; exact Q0; exact j2; (first | rfl | (focus (simp only [List.length_append, List.length_drop, List.length_map, List.length_cons, List.length_nil, A5, hbl, Nat.sub_zero, Nat.zero_add, D8, D1, Array.length_toList]; done)) | (focus (simp only [List.length_append, List.length_drop, List.length_map, List.length_cons, List.length_nil, A5, hbl, Nat.sub_zero, Nat.zero_add, D8, D1, Array.length_toList]; omega))); exact j2; exact kz; exact H5; exact Q12; exact Q32; exact Q32)
  (refine sd (by (first | omega | assumption | (rw [List.length_map]; omega))) (D7 (by first | rfl | assumption | (exact B0 tT (⟨#[]⟩ : ByteArray) (k := i) (by omega))) rfl ?_))
  (apply eap (s' := 1)  rfl rfl; exact Q0; exact j2; (first | rfl | (focus (simp only [List.length_append, List.length_drop, List.length_map, List.length_cons, List.length_nil, A5, hbl, Nat.sub_zero, Nat.zero_add, D8, D1, Array.length_toList]; done)) | (focus (simp only [List.length_append, List.length_drop, List.length_map, List.length_cons, List.length_nil, A5, hbl, Nat.sub_zero, Nat.zero_add, D8, D1, Array.length_toList]; omega))); exact j2; exact kz; exact H5; exact Q12; exact Q32; exact Q32)
  refine F6 ?_
  refine E1 fun GG hGG => ?_
  refine D6 ⟨by (first | omega | (rw [List.length_map]; omega)), by (first | omega | (rw [List.length_map]; omega))⟩ ?_
  have htk := itWL_take (L := l) (i := i) (by omega)
  have hb2 : lsP l (i + 1) = lsP l i ++ numL (l.getD i ⟨#[]⟩).size 2 ++ byt (l.getD i ⟨#[]⟩) := by unfold lsP; rw [htk]; simp only [List.append_assoc]
  refine C6 (ih ⟨i + 1, m + 1, m + 1 + 1, GG⟩ ⟨by dsimp only; omega, ?_, by dsimp only; omega⟩ (by dsimp only; omega)) (by (repeat first | exact LE.nil _ | refine LE.unk _ _ ?_ | refine LE.eq _ _ _ rfl ?_ | refine LE.eq _ _ _ (congrArg (V.view _ 0) (by (try dsimp only); rw [hb2]; simp only [List.length_append, List.length_drop, List.length_map, List.length_cons, List.length_nil, A5, Nat.sub_zero, Nat.zero_add, D8, D1, Array.length_toList, C4]; (try omega))) ?_)) (LessH.refl _) (Nat.le_refl _)
  dsimp only; rw [hGG, hb2]; ((simp (disch := omega) only [↓app0, ↓appC, ↓updS, ↓updN, ↓hpS, ↓hpN]); exact congrArg (fun z => some (Blk.mk z 1 5)) (by simp only [List.map_append, ← bytRows, List.drop_zero, rowsBf, List.append_assoc]))
 ·obtain rfl : i = l.length := by omega
  refine C7 [b1] (A0 rfl A1) (SnapL.cons _ _ _ _ (.one _ _ (N5 (List.mem_singleton.2 rfl) hg1 rfl)) SnapL.nil)
noncomputable def sgnM (id : Int) (m : Msg) : Msg := { m with fr := id, mc := mk id (bare { m with fr := id }) }
theorem r145 (id : Int) (m : Msg) (hd : m.dg.size ≤ 1000) (hb : m.bd.size ≤ 20000) : Pure En 145 [.one (.int .i64 id), .agg m.T] [.agg (sgnM id m).T] := by
 refine Pure.of_ev (st := []) Tryz.func145 rfl kb ?_
 (apply est (u := .int _ _) j3; exact Q0; exact Q8; exact j4; exact kb; rfl)
 (apply D2 (vs := [.int _ _, .int _ _, .int _ _, .int _ _, .str _, .str _, .str _]) j2; exact Q0; exact Q8; rfl; exact kb; rfl)
 refine C8 (r167 { m with fr := id } hd hb) rfl rfl rfl ?_
 refine C8 (s91 id true (plnL { m with fr := id }) (by rw [H0]; dsimp only; omega) (Y3 _)) rfl rfl rfl ?_
 (apply est (u := .str _) j3; exact Q0; exact Q8; exact j4; exact kb; rfl)
 (apply D2 (vs := [.int _ _, .int _ _, .int _ _, .int _ _, .str _, .str _, .str _]) j2; exact Q0; exact Q8; rfl; exact kb; rfl)
 (apply est (u := .agg [.int _ _, .int _ _, .int _ _, .int _ _, .str _, .str _, .str _]) j3; exact Q0; exact Q8; exact j4; exact kb; rfl)
 refine C7 [] (A0 (A2 (xs := [.int .i64 m.kd, .int .i64 m.vw, .int .i64 m.sq, .int .i64 id, .str m.dg, .str m.bd, .str (mk id (V.strOw (plnL { m with fr := id })))]) rfl (by exact Q0) j2 kb rfl) A1) ?_
 rw [plnL_str]
 exact SnapL.cons _ _ _ _ (SnapC.agg (snapRow (sgnM id m).T)) SnapL.nil
open Go.V
set_option linter.unusedVariables false
set_option linter.unusedSimpArgs false
set_option maxRecDepth 20000
set_option maxHeartbeats 4000000
theorem qd {a : Int} (h0 : 0 < a) (h1 : a ≤ 1099511627776) : 0 ≤ IntKind.i64.wrap (a.tdiv 10) ∧ IntKind.i64.wrap (a.tdiv 10) < a := by
 rw [Int.tdiv_eq_ediv_of_nonneg (by omega), wrap_i64 (by omega) (by omega)]; omega
theorem rd {a : Int} (h0 : 0 < a) (h1 : a ≤ 1099511627776) : 0 ≤ a.tmod 10 ∧ a.tmod 10 ≤ 9 := by
 rw [Int.tmod_eq_emod_of_nonneg (by omega)]; omega
theorem s67 (k : Int) (hk : 0 ≤ k ∧ k ≤ 1099511627776) : ∃ s : ByteArray, True ∧ Pure En 67 [.one (.int .i64 k)] [.one (.str s)] := by
 refine Pure.of_evX (st := []) Tryz.func67 rfl kb ?_
 refine br ?_ ?_ <;> intro h1_1
 ·first | exact ⟨_, trivial, E4 rfl rfl⟩
 ·refine A9 (fun (a : Int × ByteArray × Nat) => [.int .i64 a.1, .unk, .unk, .str a.2.1]) (fun (a : Int × ByteArray × Nat) => hp []) (fun (a : Int × ByteArray × Nat) => a.2.2) (fun (a : Int × ByteArray × Nat) => 0 ≤ a.1 ∧ (a.2.1.size : Int) + a.1 ≤ k) (fun (a : Int × ByteArray × Nat) => a.1.toNat) (k, ⟨#[]⟩, 0) ?_ ?_ ?_ ?_ ?_
  ·exact ⟨by dsimp only; omega, by show ((0 : Nat) : Int) + k ≤ k; omega⟩
  ·(repeat first | exact LE.nil _ | refine LE.unk _ _ ?_ | refine LE.eq _ _ _ rfl ?_)
  ·exact B8
  ·exact Nat.le_refl _
  intro ⟨x, s, m⟩ hI ih
  dsimp only at hI ⊢
  have hq := fun h0 => qd (a := x) h0 (by omega)
  have hr := fun h0 => rd (a := x) h0 (by omega)
  refine A7 (st := []) ?_
  refine br ?_ ?_ <;> intro h4_1
  ·refine sd (by exact Q43) ?_
   refine D6 ⟨by (first | omega | (have hr1 := hr (by omega); omega)), by (first | omega | (have hr1 := hr (by omega); omega))⟩ ?_
   refine D3 (es := [[.int _ _]]) j4 kz kb rfl rfl ?_
   (apply esg j4; (apply E0 rfl; exact Q0; (first | exact Nat.le_refl _ | omega | (simp; omega)); rfl); (intro s e; cases e); exact (show _ = List.map (fun b => [V.int .u8 b]) [_] from rfl))
   refine sd (by exact Q43) ?_
   refine sd (by exact Q43) ?_
   have hq1 := hq (by omega)
   exact C6 (ih (IntKind.i64.wrap (x.tdiv 10), Go.V.strOw [IntKind.u8.wrap (48 + x.tmod 10)] ++ s, m + 1) ⟨by dsimp only; omega, by dsimp only; rw [ByteArray.size_append, C3]; show (((1 + s.size : Nat)) : Int) + _ ≤ _; omega⟩ (by dsimp only; omega)) (by (repeat first | exact LE.nil _ | refine LE.unk _ _ ?_ | refine LE.eq _ _ _ rfl ?_)) B8 (Nat.le_refl _)
  ·refine sd (by exact Q43) ?_
   first | exact ⟨_, trivial, E4 rfl rfl⟩
theorem mt_ex (k : Int) : ∃ s : ByteArray, 0 ≤ k ∧ k ≤ 1099511627776 → Pure En 67 [.one (.int .i64 k)] [.one (.str s)] := by
 by_cases h : 0 ≤ k ∧ k ≤ 1099511627776
 ·obtain ⟨s, _, h2⟩ := s67 k h; exact ⟨s, fun _ => h2⟩
 ·exact ⟨⟨#[]⟩, fun h' => absurd h' h⟩
noncomputable def Mt (k : Int) : ByteArray := Classical.choose (mt_ex k)
noncomputable def mMy (y : Int) : Msg := ⟨y, y + 1, y + 1 + 1, y + 1 + 1 + 1, Mt (y + 1 + 1 + 1 + 1), Mt (y + 1 + 1 + 1 + 1 + 1), Mt (y + 1 + 1 + 1 + 1 + 1 + 1)⟩
noncomputable def MM (k : Int) (m : Nat) : List Msg := (List.range m).map fun (j : Nat) => mMy (k + 7 * (j : Int))
noncomputable def MS (k : Int) (m : Nat) : List ByteArray := (List.range m).map fun (j : Nat) => Mt (k + (j : Int))
def mix {α : Type} (A L : List α) (i : Nat) : List α := A.take i ++ L.drop i
theorem mix_len {α : Type} {A L : List α} {i : Nat} (h : A.length = L.length) (hi : i ≤ L.length) : (mix A L i).length = L.length := by
 simp [mix]; omega
end Go.Proofs.YteifdelnahccjaaGreatDoor
