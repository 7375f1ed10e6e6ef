import Derived.Test.YteifdelnahccjaaGreatDoorW9
namespace Go.Proofs.YteifdelnahccjaaGreatDoor
open Go.V
set_option linter.unusedVariables false
set_option linter.unusedSimpArgs false
set_option maxRecDepth 20000
set_option maxHeartbeats 4000000
structure XS where
 i : Nat
 b : Nat
 m : Nat
 g : Heap
structure XI (n : Int) (m : Msg) (l : List ByteArray) (a : XS) : Prop where
 il : a.i ≤ l.length
 g0 : a.g 0 = some ⟨[m.V], 7, 37⟩
 out : a.g a.b = some ⟨(vcL l a.i).map Ct.V, 2, 44⟩
 bm : 1 ≤ a.b ∧ a.b < a.m
 vc : VC n m.vw l a.i (vcL l a.i)
theorem r77 (n : Int) (hn : nodes n) (m : Msg) : Pure En 77 [.one (.int .i64 n), .agg m.T] [.one (.sl false ((vcO n m).map (Ct.T false))), .one (.bool (decide (okV n m)))] := by
 refine Pure.of_ev (st := [9]) Tryz.func77 rfl kb ?_
 refine A1 ?_ (by exact Q0) (by exact O7)
 refine br ?_ ?_ <;> intro h1_2
 ·refine F7 (es := []) j4 kz kb rfl rfl ?_
  have hno : ¬ okV n m := by
   rintro ⟨q0, out, q1, q2, q3, _⟩
   first
   | omega
   | exact h1_6 q3
  rw [show vcO n m = [] from if_neg hno, decide_eq_false hno]
  refine C9 [1] (A0 rfl (A0 rfl A2)) ?_
  exact (SnapL.cons _ _ _ _ (.one _ _ (.weak _ _ (B5 (b := ⟨[], 2, 44⟩) [] (List.mem_singleton.2 rfl) (by exact Q0) rfl rfl))) (SnapL.cons _ _ _ _ (.one _ _ (.bool _)) SnapL.nil))
 ·(apply C3 (vs := [.int _ _, .int _ _, .int _ _, .int _ _, .str _, .str _, .str _]) j2; exact Q0; exact O7; rfl; exact kb; rfl)
  refine B0 (r93 n m) rfl j2 ?_ ?_ <;> intro h1_6
  ·refine A1 ?_ (by exact Q0) (by exact O7)
   refine br ?_ ?_ <;> intro h1_12
   ·refine F7 (es := []) j4 kz kb rfl rfl ?_
    have hno : ¬ okV n m := by
     rintro ⟨q0, out, q1, q2, q3, _⟩
     first
     | omega
     | exact h1_6 q3
    rw [show vcO n m = [] from if_neg hno, decide_eq_false hno]
    refine C9 [1] (A0 rfl (A0 rfl A2)) ?_
    exact (SnapL.cons _ _ _ _ (.one _ _ (.weak _ _ (B5 (b := ⟨[], 2, 44⟩) [] (List.mem_singleton.2 rfl) (by exact Q0) rfl rfl))) (SnapL.cons _ _ _ _ (.one _ _ (.bool _)) SnapL.nil))
   ·have hsz : m.bd.size ≤ 1000000 := by have := h1_6.1.2.2.2.2.1; omega
    refine A1 ?_ (by exact Q0) (by exact O7)
    refine C1 (r154 m.bd hsz) rfl rfl rfl ?_
    refine brB ?_ ?_ <;> intro h3_5
    ·refine br ?_ ?_ <;> intro h4_5
     ·refine F7 (es := []) j4 kz kb rfl rfl ?_
      have hno : ¬ okV n m := by
       rintro ⟨_, out, _, _, _, l, e, h8, _⟩
       have el : lsO m.bd = l := by unfold lsO; rw [e]
       first
       | (rw [← el] at h8; rw [List.length_map] at h4_5; omega)
       | (rw [e] at h3_5; cases h3_5)
      rw [show vcO n m = [] from if_neg hno, decide_eq_false hno]
      refine C9 [1] (A0 rfl (A0 rfl A2)) ?_
      exact (SnapL.cons _ _ _ _ (.one _ _ (.weak _ _ (B5 (b := ⟨[], 2, 44⟩) [] (List.mem_singleton.2 rfl) (by exact Q0) rfl rfl))) (SnapL.cons _ _ _ _ (.one _ _ (.bool _)) SnapL.nil))
     ·have hls := J8 h3_5
      have hl : ((lsO m.bd).map tT).length = (lsO m.bd).length := List.length_map ..
      refine F7 (es := []) j4 kz kb rfl rfl ?_
      refine wlG fun g0 hg0 => ?_
      refine B3 (fun (a : XS) => [.int .i64 n, .unk, .unk, .ptr 0 0 0, .unk, .unk, .sl true false ((lsO m.bd).map tT), .unk, .view a.b 0 a.i, .int .i64 a.i]) (fun (a : XS) => a.g) (fun (a : XS) => a.m) (fun (a : XS) => XI n m (lsO m.bd) a) (fun (a : XS) => (lsO m.bd).length - a.i) ⟨0, 1, 2, g0⟩ ?_ ?_ ?_ ?_ ?_
      ·refine ⟨Nat.zero_le _, ?_, ?_, ⟨by dsimp only; omega, by dsimp only; omega⟩, .nil⟩
       ·dsimp only; rw [hg0]; exact Q0
       ·dsimp only; rw [hg0]; exact Q0
      ·(repeat first | exact LE.nil _ | refine LE.unk _ _ ?_ | refine LE.eq _ _ _ rfl ?_)
      ·exact LessH.refl _
      ·exact Nat.le_refl _
      intro ⟨i, b, m1, g⟩ hI ih
      have q0 := hI.il
      have hg0 := hI.g0
      have hgb := hI.out
      have hbm := hI.bm
      unfold Msg.V at hg0
      dsimp only at q0 hg0 hgb hbm ⊢
      have hrl := vcL_len (lsO m.bd) i
      refine A6 (st := [9]) ?_
      refine br ?_ ?_ <;> intro h8_3
      ·(refine B9 (C5 (by first | rfl | assumption | exact Q38) rfl ?_))
       refine C1 (r155 ((lsO m.bd).getD i ⟨#[]⟩) (by have := lsC_short hls _ (J7 (i := i) (by omega)); omega)) rfl rfl rfl ?_
       refine brB ?_ ?_ <;> intro h10_7
       ·(apply est (u := .agg [.str _, _]) j3; exact Q0; exact O7; exact j4; exact kb; rfl)
        (apply C3 (vs := [.str _, _]) j2; exact Q0; exact O7; rfl; exact kb; rfl)
        refine B0 (r76 n hn (ctX ((lsO m.bd).getD i ⟨#[]⟩)) false) rfl j2 ?_ ?_ <;> intro h11_5
        ·refine A1 ?_ (by exact Q0) (by exact O7)
         (refine B9 (C5 (by first | rfl | assumption | exact Q38) rfl ?_))
         refine A1 ?_ (by exact Q0) (by exact O7)
         refine br ?_ ?_ <;> intro h11_16
         ·refine F7 (es := []) j4 kz kb rfl rfl ?_
          have hno : ¬ okV n m := J2 hls hI.vc (i := i) (by omega) (by
           rintro c ⟨e1, e2, e3, e4⟩
           have ec : (ctX ((lsO m.bd).getD i ⟨#[]⟩)) = c := by unfold ctX; rw [e1]
           unfold Ct.vw at e3
           first
           | (rw [e1] at h10_7; cases h10_7; done)
           | exact h11_5 (by rw [ec]; exact e2)
           | (rw [ec] at h11_16; omega)
           | (have q := e4 (fun e => by rw [e] at hrl; simp at hrl; omega); (try dsimp only at q); rw [hrl] at q; unfold Ct.sq at q; rw [ec] at h11_36; omega))
          rw [show vcO n m = [] from if_neg hno, decide_eq_false hno]
          refine C9 [m1 + 1] (A0 rfl (A0 rfl A2)) ?_
          exact (SnapL.cons _ _ _ _ (.one _ _ (.weak _ _ (B5 (b := ⟨[], 2, 44⟩) [] (List.mem_singleton.2 rfl) (by exact Q0) rfl rfl))) (SnapL.cons _ _ _ _ (.one _ _ (.bool _)) SnapL.nil))
         ·refine br ?_ ?_ <;> intro h11_20
          ·refine C0 ?_
           (refine H1 (by exact Q0) ⟨rfl, B9 ?_⟩)
           refine A1 ?_ (by exact Q0) (by exact O7)
           (refine B9 (C5 (by first | rfl | assumption | exact Q38) rfl ?_))
           refine A1 ?_ (by exact Q0) (by exact O7)
           (refine B9 (C5 (by first | rfl | assumption | exact Q38) rfl ?_))
           refine br ?_ ?_ <;> intro h11_36
           ·refine F7 (es := []) j4 kz kb rfl rfl ?_
            have hno : ¬ okV n m := J2 hls hI.vc (i := i) (by omega) (by
             rintro c ⟨e1, e2, e3, e4⟩
             have ec : (ctX ((lsO m.bd).getD i ⟨#[]⟩)) = c := by unfold ctX; rw [e1]
             unfold Ct.vw at e3
             first
             | (rw [e1] at h10_7; cases h10_7; done)
             | exact h11_5 (by rw [ec]; exact e2)
             | (rw [ec] at h11_16; omega)
             | (have q := e4 (fun e => by rw [e] at hrl; simp at hrl; omega); (try dsimp only at q); rw [hrl] at q; unfold Ct.sq at q; rw [ec] at h11_36; omega))
            rw [show vcO n m = [] from if_neg hno, decide_eq_false hno]
            refine C9 [m1 + 1] (A0 rfl (A0 rfl A2)) ?_
            exact (SnapL.cons _ _ _ _ (.one _ _ (.weak _ _ (B5 (b := ⟨[], 2, 44⟩) [] (List.mem_singleton.2 rfl) (by exact Q0) rfl rfl))) (SnapL.cons _ _ _ _ (.one _ _ (.bool _)) SnapL.nil))
           ·(apply C3 (vs := [.str _, _]) j2; exact Q0; exact O7; rfl; exact kb; rfl)
            refine F7 (es := [[.str _, _]]) j4 kz kb rfl rfl ?_
            (apply eap (s' := 40) (es := [[.str _, _]]) rfl rfl; exact Q0; exact j2; exact Q29; exact j2; exact kz; exact L7; exact Q3; exact Q6; exact Q6)
            refine O4 fun G hG => ?_
            refine C0 ?_
            have hvc : vcT mk bare rdM dgB n m.vw (vcL (lsO m.bd) i) ((lsO m.bd).getD i ⟨#[]⟩) (ctX ((lsO m.bd).getD i ⟨#[]⟩)) := ⟨S7 h10_7, h11_5, by unfold Ct.vw; omega, fun hne => by rw [hrl]; have hp : 0 < i := Nat.pos_of_ne_zero (fun e => hne (by rw [← List.length_eq_zero_iff, hrl, e])); unfold Ct.sq; omega⟩
            refine C6 (ih ⟨i + 1, m1 + 1 + 1, m1 + 1 + 1 + 1, G⟩ ⟨by dsimp only; omega, ?_, ?_, ⟨by dsimp only; omega, by dsimp only; omega⟩, Vc.more i _ _ hI.vc (by omega) hvc⟩ (by dsimp only; omega)) (by (repeat first | exact LE.nil _ | refine LE.unk _ _ ?_ | refine LE.eq _ _ _ rfl ?_)) (LessH.refl _) (Nat.le_refl _)
            ·dsimp only; rw [hG]; exact Q0
            ·dsimp only; rw [hG]; show _ = some (Blk.mk ((vcL (lsO m.bd) i ++ [_]).map Ct.V) 2 44); rw [List.map_append]; exact Q0
          ·(apply C3 (vs := [.str _, _]) j2; exact Q0; exact O7; rfl; exact kb; rfl)
           refine F7 (es := [[.str _, _]]) j4 kz kb rfl rfl ?_
           (apply eap (s' := 40) (es := [[.str _, _]]) rfl rfl; exact Q0; exact j2; exact Q29; exact j2; exact kz; exact L7; exact Q3; exact Q6; exact Q6)
           refine O4 fun G hG => ?_
           refine C0 ?_
           have hvc : vcT mk bare rdM dgB n m.vw (vcL (lsO m.bd) i) ((lsO m.bd).getD i ⟨#[]⟩) (ctX ((lsO m.bd).getD i ⟨#[]⟩)) := ⟨S7 h10_7, h11_5, by unfold Ct.vw; omega, fun hne => by rw [hrl]; have hp : 0 < i := Nat.pos_of_ne_zero (fun e => hne (by rw [← List.length_eq_zero_iff, hrl, e])); unfold Ct.sq; omega⟩
           refine C6 (ih ⟨i + 1, m1 + 1 + 1, m1 + 1 + 1 + 1, G⟩ ⟨by dsimp only; omega, ?_, ?_, ⟨by dsimp only; omega, by dsimp only; omega⟩, Vc.more i _ _ hI.vc (by omega) hvc⟩ (by dsimp only; omega)) (by (repeat first | exact LE.nil _ | refine LE.unk _ _ ?_ | refine LE.eq _ _ _ rfl ?_)) (LessH.refl _) (Nat.le_refl _)
           ·dsimp only; rw [hG]; exact Q0
           ·dsimp only; rw [hG]; show _ = some (Blk.mk ((vcL (lsO m.bd) i ++ [_]).map Ct.V) 2 44); rw [List.map_append]; exact Q0
        ·refine F7 (es := []) j4 kz kb rfl rfl ?_
         have hno : ¬ okV n m := J2 hls hI.vc (i := i) (by omega) (by
          rintro c ⟨e1, e2, e3, e4⟩
          have ec : (ctX ((lsO m.bd).getD i ⟨#[]⟩)) = c := by unfold ctX; rw [e1]
          unfold Ct.vw at e3
          first
          | (rw [e1] at h10_7; cases h10_7; done)
          | exact h11_5 (by rw [ec]; exact e2)
          | (rw [ec] at h11_16; omega)
          | (have q := e4 (fun e => by rw [e] at hrl; simp at hrl; omega); (try dsimp only at q); rw [hrl] at q; unfold Ct.sq at q; rw [ec] at h11_36; omega))
         rw [show vcO n m = [] from if_neg hno, decide_eq_false hno]
         refine C9 [m1 + 1] (A0 rfl (A0 rfl A2)) ?_
         exact (SnapL.cons _ _ _ _ (.one _ _ (.weak _ _ (B5 (b := ⟨[], 2, 44⟩) [] (List.mem_singleton.2 rfl) (by exact Q0) rfl rfl))) (SnapL.cons _ _ _ _ (.one _ _ (.bool _)) SnapL.nil))
       ·(apply est (u := .agg [.str _, _]) j3; exact Q0; exact O7; exact j4; exact kb; rfl)
        refine F7 (es := []) j4 kz kb rfl rfl ?_
        have hno : ¬ okV n m := J2 hls hI.vc (i := i) (by omega) (by
         rintro c ⟨e1, e2, e3, e4⟩
         have ec : (ctX ((lsO m.bd).getD i ⟨#[]⟩)) = c := by unfold ctX; rw [e1]
         unfold Ct.vw at e3
         first
         | (rw [e1] at h10_7; cases h10_7; done)
         | exact h11_5 (by rw [ec]; exact e2)
         | (rw [ec] at h11_16; omega)
         | (have q := e4 (fun e => by rw [e] at hrl; simp at hrl; omega); (try dsimp only at q); rw [hrl] at q; unfold Ct.sq at q; rw [ec] at h11_36; omega))
        rw [show vcO n m = [] from if_neg hno, decide_eq_false hno]
        refine C9 [m1 + 1] (A0 rfl (A0 rfl A2)) ?_
        exact (SnapL.cons _ _ _ _ (.one _ _ (.weak _ _ (B5 (b := ⟨[], 2, 44⟩) [] (List.mem_singleton.2 rfl) (by exact Q0) rfl rfl))) (SnapL.cons _ _ _ _ (.one _ _ (.bool _)) SnapL.nil))
      ·have hvw := h1_6.1.2.1.1
       obtain ⟨hyes, he⟩ := okV_yes (by omega) (by omega) ⟨hn, h1_6⟩ hls (by omega) (i := i) (by omega) hI.vc
       rw [he, decide_eq_true hyes]
       exact C9 [b] (A0 rfl (A0 rfl A2)) (SnapL.cons _ _ _ _ (.one _ _ (.weak _ _ (B5 (b := ⟨(vcL (lsO m.bd) i).map Ct.V, 2, 44⟩) ((vcL (lsO m.bd) i).map (Ct.T false)) (List.mem_singleton.2 rfl) (by exact Q0) (rowsC _).symm (by rw [List.length_map]; exact hrl.symm)))) (SnapL.cons _ _ _ _ (.one _ _ (.bool _)) SnapL.nil))
    ·refine F7 (es := []) j4 kz kb rfl rfl ?_
     have hno : ¬ okV n m := by
      rintro ⟨_, out, _, _, _, l, e, h8, _⟩
      have el : lsO m.bd = l := by unfold lsO; rw [e]
      first
      | (rw [← el] at h8; rw [List.length_map] at h4_5; omega)
      | (rw [e] at h3_5; cases h3_5)
     rw [show vcO n m = [] from if_neg hno, decide_eq_false hno]
     refine C9 [1] (A0 rfl (A0 rfl A2)) ?_
     exact (SnapL.cons _ _ _ _ (.one _ _ (.weak _ _ (B5 (b := ⟨[], 2, 44⟩) [] (List.mem_singleton.2 rfl) (by exact Q0) rfl rfl))) (SnapL.cons _ _ _ _ (.one _ _ (.bool _)) SnapL.nil))
  ·refine F7 (es := []) j4 kz kb rfl rfl ?_
   have hno : ¬ okV n m := by
    rintro ⟨q0, out, q1, q2, q3, _⟩
    first
    | omega
    | exact h1_6 q3
   rw [show vcO n m = [] from if_neg hno, decide_eq_false hno]
   refine C9 [1] (A0 rfl (A0 rfl A2)) ?_
   exact (SnapL.cons _ _ _ _ (.one _ _ (.weak _ _ (B5 (b := ⟨[], 2, 44⟩) [] (List.mem_singleton.2 rfl) (by exact Q0) rfl rfl))) (SnapL.cons _ _ _ _ (.one _ _ (.bool _)) SnapL.nil))
open Go.V
set_option linter.unusedVariables false
set_option linter.unusedSimpArgs false
set_option maxRecDepth 20000
set_option maxHeartbeats 4000000
def bdO (s : Pl) (k : Nat) : ByteArray := if (s.B.getD (k + 1) Ct0).ps.length = 0 then ⟨#[]⟩ else (s.B.getD (k + 1) Ct0).bd
def vwO (s : Pl) (k : Nat) : Int := if (s.B.getD (k + 1) Ct0).ps.length = 0 then 0 else (s.B.getD (k + 1) Ct0).vw
def bdL (s : Pl) : List ByteArray := (List.range 8).map (bdO s)
def vwL (s : Pl) : List Int := (List.range 8).map (vwO s)
theorem getD_set9 {B : List Ct} {c : Ct} {q k : Nat} (hB : B.length = 9) (hq : q < 9) : (B.set q c).getD k Ct0 = if k = q then c else B.getD k Ct0 := by
 by_cases e : k = q
 ·subst e; rw [if_pos rfl]; simp [hB, hq]
 ·rw [if_neg e]; simp [List.getElem?_set_ne (fun q => e q.symm)]
def PlH (s : Pl) : Prop := ∀ k, 0 < (s.B.getD k Ct0).ps.length → (s.B.getD k Ct0).bd ≠ ⟨#[]⟩
theorem PlH.zero : PlH Pl0 := fun k h => by
 exfalso
 have : (Pl0.B.getD k Ct0) = Ct0 := by
  show (List.replicate 9 Ct0).getD k Ct0 = Ct0
  rw [List.getD_eq_getElem?_getD, List.getElem?_replicate]
  split <;> rfl
 rw [this] at h; exact absurd h (by decide)
theorem PlH.step {s : Pl} {c : Ct} (h : PlH s) (hb : s.B.length = 9) (hc : cG c) (hd : c.bd ≠ ⟨#[]⟩) : PlH (s.step c) := by
 intro k
 unfold Pl.step; dsimp only
 split
 ·rw [getD_set9 hb (by have := hc.2; omega)]
  split
  ·exact fun _ => hd
  ·exact h k
 ·exact h k
theorem PlH.rn {s : Pl} {cs : List Ct} (h : PlH s) (hg : PlG s) (hc : ∀ j, j < cs.length → cG (cs.getD j Ct0)) (hd : ∀ j, j < cs.length → (cs.getD j Ct0).bd ≠ ⟨#[]⟩) : ∀ k, k ≤ cs.length → PlH (rnS s cs k)
 | 0, _ => h
 | k + 1, hk => (PlH.rn h hg hc hd k (by omega)).step (PlG.rn hg hc k (by omega)).len (hc k (by omega)) (hd k (by omega))
theorem VC.bodies {n vw : Int} {l : List ByteArray} {i : Nat} {out : List Ct} (h : VC n vw l i out) : ∀ j, j < i → (out.getD j Ct0).bd ≠ ⟨#[]⟩ := by
 induction h with
 | nil => intro j hj; omega
 | more i out c h hi hc ih =>
  intro j hj
  have hl := h.len
  by_cases e : j < i
  ·have := ih j e
   rwa [show (out ++ [c]).getD j Ct0 = out.getD j Ct0 by simp [List.getElem?_append_left (show j < out.length by omega)]]
  ·rw [show (out ++ [c]).getD j Ct0 = c by simp [show j = out.length by omega]]
   exact fun q => rb_e q hc.2.1.2.2.1.1
theorem vcO_bodies (n : Int) (m : Msg) : ∀ j, j < (vcO n m).length → ((vcO n m).getD j Ct0).bd ≠ ⟨#[]⟩ := by
 intro j hj
 by_cases h : okV n m
 ·obtain ⟨hn, out, ho⟩ := h
  have e := (okV_is hn ho).2
  rw [e] at hj ⊢
  obtain ⟨_, _, _, l, _, _, hv⟩ := ho
  exact VC.bodies hv j (by have := hv.len; omega)
 ·rw [show vcO n m = [] from if_neg h] at hj; simp at hj
theorem PlH.pl (n : Int) (L : List Msg) : ∀ i, PlH (plS n L i)
 | 0 => PlH.zero
 | i + 1 => PlH.rn (PlH.pl n L i) (PlG.pl n L i) (vcO_good n _) (vcO_bodies n _) _ (Nat.le_refl _)
def NM (M : List ByteArray) (i : Nat) : List ByteArray := if M.getD i ⟨#[]⟩ = ⟨#[]⟩ then M.set i nullT else M
def ouE (s : Pl) (i : Nat) : ByteArray := if (s.B.getD (i + 1) Ct0).ps.length = 0 then nullT else (s.B.getD (i + 1) Ct0).bd
open Go.V
set_option linter.unusedVariables false
set_option linter.unusedSimpArgs false
set_option maxRecDepth 20000
set_option maxHeartbeats 4000000
def BDB (s : Pl) : Option Blk := some ⟨(bdL s).map tV, 1, 9⟩
def VWB (s : Pl) : Option Blk := some ⟨(vwL s).map iV, 1, 3⟩
structure QJ (n vw : Int) (L : List Msg) (a : QS) : Prop where
 il : a.i ≤ L.length
 g0 : a.g 0 = BDB (plS n L a.i)
 g1 : a.g 1 = VWB (plS n L a.i)
 mm : 2 ≤ a.m
 ok : ∀ j, j < a.i → okP n vw L j
structure RJ (s : Pl) (cs : List Ct) (a : QS) : Prop where
 il : a.i ≤ cs.length
 g0 : a.g 0 = BDB (rnS s cs a.i)
 g1 : a.g 1 = VWB (rnS s cs a.i)
 mm : 2 ≤ a.m
structure UJ where
 i : Nat
 b : Nat
 m : Nat
 M : List ByteArray
 g : Heap
structure UJI (s : Pl) (a : UJ) : Prop where
 il : (a.i : Int) ≤ s.last
 g0 : a.g 0 = some ⟨a.M.map tV, 1, 9⟩
 out : a.g a.b = some ⟨(ouP s a.i).map tV, 1, 9⟩
 bm : 2 ≤ a.b ∧ a.b < a.m
 ml : a.M.length = 8
 mt : ∀ k, a.i ≤ k → k < 8 → a.M.getD k ⟨#[]⟩ = bdO s k
open Go.V
set_option linter.unusedVariables false
set_option linter.unusedSimpArgs false
set_option maxRecDepth 20000
set_option maxHeartbeats 4000000
open Go.V
set_option linter.unusedVariables false
set_option linter.unusedSimpArgs false
set_option maxRecDepth 20000
set_option maxHeartbeats 4000000
def mkG {α : Type} (f : α → List V) (z : List V) (L : List α) (i : Nat) : List (List V) := (L.take i).map f ++ List.replicate (L.length - i) z
theorem E9 {α : Type} (f : α → List V) (z : List V) (L : List α) : mkG f z L 0 = List.replicate L.length z := by simp [mkG]
theorem F0 {α : Type} (f : α → List V) (z : List V) (L : List α) : mkG f z L L.length = L.map f := by simp [mkG]
theorem H2 {α : Type} (f : α → List V) (z : List V) {L : List α} {i : Nat} (h : i < L.length) : (mkG f z L i)[0 + i]? = some z := by
 have e : ((L.take i).map f).length = i := by simp; omega
 unfold mkG
 rw [Nat.zero_add, List.getElem?_append_right (by omega), e, Nat.sub_self, List.getElem?_replicate, if_pos (by omega)]
theorem H3 {α : Type} (f : α → List V) (z : List V) (d : α) {L : List α} {i : Nat} (h : i < L.length) : (mkG f z L i).set (0 + i) (f (L.getD i d)) = mkG f z L (i + 1) := by
 have e : ((L.take i).map f).length = i := by simp; omega
 unfold mkG
 rw [Nat.zero_add, List.set_append_right _ _ (by omega), e, Nat.sub_self]
 have e2 : L.length - i = (L.length - (i + 1)) + 1 := by omega
 rw [e2, List.replicate_succ, List.set_cons_zero]
 have e3 : L.take (i + 1) = L.take i ++ [L.getD i d] := by
  rw [List.take_add_one]; simp [h]
 rw [e3, List.map_append, List.append_assoc]
 rfl
open Go Go.V
set_option linter.unusedVariables false
set_option linter.unusedSimpArgs false
set_option maxRecDepth 20000
inductive TB (B : Nat) : T → Prop
 | bool (b : Bool) : TB B (.bool b)
 | int (k : IntKind) (n : Int) : TB B (.int k n)
 | str (s : ByteArray) (h : s.size ≤ B) : TB B (.str s)
 | sl (nn : Bool) (es : List (List T)) (h : es.length ≤ B) (hs : ∀ e ∈ es, ∀ x ∈ e, TB B x) : TB B (.sl nn es)
def TBs (B : Nat) (e : List T) : Prop := ∀ x ∈ e, TB B x
theorem E0 {B : Nat} : TBs B [] ↔ True := ⟨fun _ => trivial, fun _ x h => by cases h⟩
theorem D1 {B : Nat} {x : T} {e : List T} : TBs B (x :: e) ↔ TB B x ∧ TBs B e := by unfold TBs; simp
theorem F5 {B : Nat} {d e : List T} : TBs B (d ++ e) ↔ TBs B d ∧ TBs B e := by
 unfold TBs
 constructor
 ·intro h; exact ⟨fun x hx => h x (List.mem_append_left _ hx), fun x hx => h x (List.mem_append_right _ hx)⟩
 ·intro h x hx; rcases List.mem_append.1 hx with q | q
  ·exact h.1 x q
  ·exact h.2 x q
theorem F1 {B : Nat} {k : IntKind} {n : Int} : TB B (.int k n) ↔ True := ⟨fun _ => trivial, fun _ => .int k n⟩
theorem E2 {B : Nat} {b : Bool} : TB B (.bool b) ↔ True := ⟨fun _ => trivial, fun _ => .bool b⟩
theorem H4 {B : Nat} {s : ByteArray} : TB B (.str s) ↔ s.size ≤ B := ⟨fun h => by cases h; assumption, fun h => .str s h⟩
theorem B1 {B : Nat} {nn : Bool} {α : Type} (f : α → List T) (d : α) {L : List α} : TB B (.sl nn (L.map f)) ↔ L.length ≤ B ∧ ∀ i, i < L.length → TBs B (f (L.getD i d)) := by
 constructor
 ·intro h
  cases h with
  | sl _ _ h hs =>
   refine ⟨by simpa using h, fun i hi => ?_⟩
   exact hs _ (List.mem_map.2 ⟨_, by rw [List.getD_eq_getElem?_getD, List.getElem?_eq_getElem hi]; exact List.getElem_mem _, rfl⟩)
 ·rintro ⟨h1, h2⟩
  refine .sl nn _ (by simpa using h1) fun e he => ?_
  obtain ⟨a, ha, rfl⟩ := List.mem_map.1 he
  obtain ⟨i, hi, rfl⟩ := List.getElem_of_mem ha
  have := h2 i hi
  rwa [show L.getD i d = L[i] by simp [hi]] at this
mutual
theorem sh_TB : ∀ {x : T} {s : Sh}, HasSh x s → TB maxLen x
 | _, _, .bool b => .bool b
 | _, _, .int k n _ => .int k n
 | _, _, .str s h => .str s h
 | _, _, .sl es l h hs => .sl false es h fun e he => sh_TBs (hs e he)
theorem sh_TBs : ∀ {xs : List T} {l : List Sh}, Shs xs l → TBs maxLen xs
 | _, _, .nil => fun x h => by cases h
 | _, _, .cons x s xs l h hs => D1.2 ⟨sh_TB h, sh_TBs hs⟩
end
theorem B6 {xs : List T} {s : Sh} {l : List Sh} (h : Shs xs (s :: l)) : ∃ x r, xs = x :: r ∧ HasSh x s ∧ Shs r l := by
 cases h with | cons x _ r _ h hs => exact ⟨x, r, rfl, h, hs⟩
theorem H5 {xs : List T} (h : Shs xs []) : xs = [] := by cases h; rfl
theorem D2 {x : T} {k : IntKind} (h : HasSh x (.int k)) : ∃ n, x = .int k n := by cases h with | int _ n _ => exact ⟨n, rfl⟩
theorem N1 {x : T} (h : HasSh x .str) : ∃ s : ByteArray, x = .str s := by cases h with | str s h => exact ⟨s, rfl⟩
theorem X0 {x : T} (h : HasSh x .bool) : ∃ b, x = .bool b := by cases h with | bool b => exact ⟨b, rfl⟩
theorem T9 {xs : List T} : ∀ {l m : List Sh}, Shs xs (l ++ m) → ∃ a b, xs = a ++ b ∧ Shs a l ∧ Shs b m := by
 intro l
 induction l generalizing xs with
 | nil => intro m h; exact ⟨[], xs, rfl, .nil, h⟩
 | cons s l ih =>
  intro m h
  obtain ⟨x, r, rfl, hx, hr⟩ := B6 (l := l ++ m) h
  obtain ⟨a, b, rfl, ha, hb⟩ := ih hr
  exact ⟨x :: a, b, rfl, .cons _ _ _ _ hx ha, hb⟩
def shByteArray : List Sh := [.str]
theorem W5 {xs : List T} (h : Shs xs shByteArray) : ∃ s : ByteArray, xs = tT s := by
 obtain ⟨_, _, rfl, g, k⟩ := B6 h; obtain ⟨s, rfl⟩ := N1 g; obtain rfl := H5 k; exact ⟨s, rfl⟩
def shInt : List Sh := [.int .i64]
theorem shInt_inv {xs : List T} (h : Shs xs shInt) : ∃ n : Int, xs = iT n := by
 obtain ⟨_, _, rfl, g, k⟩ := B6 h; obtain ⟨s, rfl⟩ := D2 g; obtain rfl := H5 k; exact ⟨s, rfl⟩
theorem G6 {α : Type} {f : α → List T} {x : T} {l : List Sh} (h : HasSh x (.sl l)) (hf : ∀ xs, Shs xs l → ∃ a, xs = f a) : ∃ L : List α, x = .sl false (L.map f) := by
 cases h with
 | sl es _ h hs =>
  obtain ⟨L, rfl⟩ := rows_of (f := f) es (fun e he => let ⟨a, ha⟩ := hf e (hs e he); ⟨a, ha.symm⟩)
  exact ⟨L, rfl⟩
def vT {α : Type} (f : α → List T) (a : α) : List V := (f a).map (T.toV true)
theorem snapT {h : Heap} {ids : List Nat} {r : Bool} : ∀ x : T, Snap h ids r (x.toV true) x
 | .bool b => .bool b
 | .int k n => .int k n
 | .str s => .str s
 | .nilp => .nilp
 | .nilf => .nilf
 | .nsl => .nsl
 | .sl nn es => .sl true nn es fun _ => .inl rfl
theorem E1 {h : Heap} {ids : List Nat} {r : Bool} : ∀ e : List T, SnapC h ids r (e.map (T.toV true)) e
 | [] => .nil
 | x :: e => .cons _ _ _ _ (snapT x) (E1 e)
theorem F2 {h : Heap} {ids : List Nat} {r : Bool} {α : Type} {f : α → List T} {id sz ty m : Nat} {L : List α} (hid : id ∈ ids) (hb : h id = some ⟨L.map (vT f), sz, ty⟩) (hm : m = L.length) : Snap h ids r (.view id 0 m) (.sl false (L.map f)) :=
 .weak _ _ (B5 (L.map f) hid hb (by unfold rowsV vT; rw [List.map_map]; rfl) (by rw [hm, List.length_map]))
open Go Go.V
set_option linter.unusedVariables false
set_option linter.unusedSimpArgs false
set_option maxRecDepth 20000
set_option maxHeartbeats 4000000
def shMsg : List Sh := .int .i64 :: .int .i64 :: .int .i64 :: .int .i64 :: .str :: .str :: .str :: []
theorem I9 {xs : List V.T} (h : Shs xs shMsg) : ∃ s : Msg, xs = Msg.T s := by
 obtain ⟨_, _, rfl, g0, k0⟩ := B6 h; obtain ⟨a0, rfl⟩ := D2 g0
 obtain ⟨_, _, rfl, g1, k1⟩ := B6 k0; obtain ⟨a1, rfl⟩ := D2 g1
 obtain ⟨_, _, rfl, g2, k2⟩ := B6 k1; obtain ⟨a2, rfl⟩ := D2 g2
 obtain ⟨_, _, rfl, g3, k3⟩ := B6 k2; obtain ⟨a3, rfl⟩ := D2 g3
 obtain ⟨_, _, rfl, g4, k4⟩ := B6 k3; obtain ⟨a4, rfl⟩ := N1 g4
 obtain ⟨_, _, rfl, g5, k5⟩ := B6 k4; obtain ⟨a5, rfl⟩ := N1 g5
 obtain ⟨_, _, rfl, g6, k6⟩ := B6 k5; obtain ⟨a6, rfl⟩ := N1 g6
 obtain rfl := H5 k6
 exact ⟨⟨a0, a1, a2, a3, a4, a5, a6⟩, rfl⟩
theorem Msg.tb {B : Nat} {s : Msg} : TBs B (Msg.T s) ↔ s.dg.size ≤ B ∧ s.bd.size ≤ B ∧ s.mc.size ≤ B := by
 simp only [Msg.T, D1, F5, E0, H4, F1, E2, true_and, and_true]
def shCt : List Sh := .str :: .sl shMsg :: []
theorem shCt_inv {xs : List V.T} (h : Shs xs shCt) : ∃ s : Ct, xs = (Ct.T false) s := by
 obtain ⟨_, _, rfl, g0, k0⟩ := B6 h; obtain ⟨a0, rfl⟩ := N1 g0
 obtain ⟨_, _, rfl, g1, k1⟩ := B6 k0; obtain ⟨a1, rfl⟩ := G6 (f := Msg.T) g1 (fun _ h => I9 h)
 obtain rfl := H5 k1
 exact ⟨⟨a0, a1⟩, rfl⟩
theorem Ct.tb {B : Nat} {s : Ct} : TBs B ((Ct.T false) s) ↔ s.bd.size ≤ B ∧ TB B (.sl false (s.ps.map Msg.T)) := by
 simp only [Ct.T, D1, F5, E0, H4, F1, E2, true_and, and_true]
structure Slt where
 bd : ByteArray
 pr : List Msg
 cm : List Msg
 se : Bool
 dn : Bool
def Slt.T (s : Slt) : List V.T := .str s.bd :: .sl false (s.pr.map Msg.T) :: .sl false (s.cm.map Msg.T) :: .bool s.se :: .bool s.dn :: []
def Slt0 : Slt := ⟨⟨#[]⟩, [], [], false, false⟩
def shSlt : List Sh := .str :: .sl shMsg :: .sl shMsg :: .bool :: .bool :: []
theorem shSlt_inv {xs : List V.T} (h : Shs xs shSlt) : ∃ s : Slt, xs = Slt.T s := by
 obtain ⟨_, _, rfl, g0, k0⟩ := B6 h; obtain ⟨a0, rfl⟩ := N1 g0
 obtain ⟨_, _, rfl, g1, k1⟩ := B6 k0; obtain ⟨a1, rfl⟩ := G6 (f := Msg.T) g1 (fun _ h => I9 h)
 obtain ⟨_, _, rfl, g2, k2⟩ := B6 k1; obtain ⟨a2, rfl⟩ := G6 (f := Msg.T) g2 (fun _ h => I9 h)
 obtain ⟨_, _, rfl, g3, k3⟩ := B6 k2; obtain ⟨a3, rfl⟩ := X0 g3
 obtain ⟨_, _, rfl, g4, k4⟩ := B6 k3; obtain ⟨a4, rfl⟩ := X0 g4
 obtain rfl := H5 k4
 exact ⟨⟨a0, a1, a2, a3, a4⟩, rfl⟩
theorem Slt.tb {B : Nat} {s : Slt} : TBs B (Slt.T s) ↔ s.bd.size ≤ B ∧ TB B (.sl false (s.pr.map Msg.T)) ∧ TB B (.sl false (s.cm.map Msg.T)) := by
 simp only [Slt.T, D1, F5, E0, H4, F1, E2, true_and, and_true]
structure Rep where
 id : Int
 nd : Int
 vw : Int
 ac : Bool
 sl : List Slt
 cs : List Ct
 lg : List ByteArray
 ch : List Msg
def Rep.T (s : Rep) : List V.T := .int .i64 s.id :: .int .i64 s.nd :: .int .i64 s.vw :: .bool s.ac :: .sl false (s.sl.map Slt.T) :: .sl false (s.cs.map (Ct.T false)) :: .sl false (s.lg.map tT) :: .sl false (s.ch.map Msg.T) :: []
def Rep0 : Rep := ⟨0, 0, 0, false, [], [], [], []⟩
def shRep : List Sh := .int .i64 :: .int .i64 :: .int .i64 :: .bool :: .sl shSlt :: .sl shCt :: .sl shByteArray :: .sl shMsg :: []
theorem shRep_inv {xs : List V.T} (h : Shs xs shRep) : ∃ s : Rep, xs = Rep.T s := by
 obtain ⟨_, _, rfl, g0, k0⟩ := B6 h; obtain ⟨a0, rfl⟩ := D2 g0
 obtain ⟨_, _, rfl, g1, k1⟩ := B6 k0; obtain ⟨a1, rfl⟩ := D2 g1
 obtain ⟨_, _, rfl, g2, k2⟩ := B6 k1; obtain ⟨a2, rfl⟩ := D2 g2
 obtain ⟨_, _, rfl, g3, k3⟩ := B6 k2; obtain ⟨a3, rfl⟩ := X0 g3
 obtain ⟨_, _, rfl, g4, k4⟩ := B6 k3; obtain ⟨a4, rfl⟩ := G6 (f := Slt.T) g4 (fun _ h => shSlt_inv h)
 obtain ⟨_, _, rfl, g5, k5⟩ := B6 k4; obtain ⟨a5, rfl⟩ := G6 (f := (Ct.T false)) g5 (fun _ h => shCt_inv h)
 obtain ⟨_, _, rfl, g6, k6⟩ := B6 k5; obtain ⟨a6, rfl⟩ := G6 (f := tT) g6 (fun _ h => W5 h)
 obtain ⟨_, _, rfl, g7, k7⟩ := B6 k6; obtain ⟨a7, rfl⟩ := G6 (f := Msg.T) g7 (fun _ h => I9 h)
 obtain rfl := H5 k7
 exact ⟨⟨a0, a1, a2, a3, a4, a5, a6, a7⟩, rfl⟩
theorem Rep.tb {B : Nat} {s : Rep} : TBs B (Rep.T s) ↔ TB B (.sl false (s.sl.map Slt.T)) ∧ TB B (.sl false (s.cs.map (Ct.T false))) ∧ TB B (.sl false (s.lg.map tT)) ∧ TB B (.sl false (s.ch.map Msg.T)) := by
 simp only [Rep.T, D1, F5, E0, H4, F1, E2, true_and, and_true]
theorem lz56 (s : Msg) (k : Int) (hk : 0 ≤ k ∧ k ≤ 1048576) (hb : TBs 9223372036854775807 (Msg.T s)) : ∃ x : Int, ((-1 ≤ x ∧ x ≤ k) ∧ (0 ≤ x → TBs 1048576 (Msg.T s))) ∧ Pure En 56 [.agg (Msg.T s), .one (.int .i64 k)] [.one (.int .i64 x)] := by
 obtain ⟨b0, b1, b2⟩ := Msg.tb.1 hb
 refine Pure.of_evX (st := []) Tryz.func56 rfl kb ?_
 refine A1 ?_
 refine C0 ?_
 refine br ?_ ?_ <;> intro h2_1
 ·first | exact ⟨-1, ⟨by omega, fun h => by omega⟩, B4 rfl rfl⟩ | exact ⟨_, ⟨by omega, fun hx => Msg.tb.2 ⟨by omega, by omega, by omega⟩⟩, B4 rfl rfl⟩
 ·refine A1 ?_
  refine C0 ?_
  refine br ?_ ?_ <;> intro h5_1
  ·first | exact ⟨-1, ⟨by omega, fun h => by omega⟩, B4 rfl rfl⟩ | exact ⟨_, ⟨by omega, fun hx => Msg.tb.2 ⟨by omega, by omega, by omega⟩⟩, B4 rfl rfl⟩
  ·refine A1 ?_
   refine C0 ?_
   refine br ?_ ?_ <;> intro h8_1
   ·first | exact ⟨-1, ⟨by omega, fun h => by omega⟩, B4 rfl rfl⟩ | exact ⟨_, ⟨by omega, fun hx => Msg.tb.2 ⟨by omega, by omega, by omega⟩⟩, B4 rfl rfl⟩
   ·first | exact ⟨-1, ⟨by omega, fun h => by omega⟩, B4 rfl rfl⟩ | exact ⟨_, ⟨by omega, fun hx => Msg.tb.2 ⟨by omega, by omega, by omega⟩⟩, B4 rfl rfl⟩
theorem lz13 (L : List Msg) (k : Int) (hk : 0 ≤ k ∧ k ≤ 1048576) (hb : TB 9223372036854775807 (.sl false (L.map Msg.T))) : ∃ x : Int, ((-1 ≤ x ∧ x ≤ k) ∧ (0 ≤ x → TB 1048576 (.sl false (L.map Msg.T)))) ∧ Pure En 13 [.one (.sl false (L.map Msg.T)), .one (.int .i64 k)] [.one (.int .i64 x)] := by
 have hl : (L.map Msg.T).length = L.length := List.length_map ..
 obtain ⟨hm, hs⟩ := (B1 Msg.T Msg0).1 hb
 refine Pure.of_evX (st := []) Tryz.func13 rfl kb ?_
 refine C0 ?_
 refine br ?_ ?_ <;> intro h2_1
 ·first | exact ⟨-1, ⟨by omega, fun h => by omega⟩, B4 rfl rfl⟩ | exact ⟨a1, ⟨by omega, fun _ => (B1 Msg.T Msg0).2 ⟨by omega, fun j hj => q3 j (by omega)⟩⟩, B4 rfl rfl⟩
 ·refine C4 (fun (a : Nat × Int) => [.sl false false (L.map Msg.T), .int .i64 a.2, .unk, .unk, .unk, .int .i64 a.1]) (fun (a : Nat × Int) => a.1 ≤ L.length ∧ (0 ≤ a.2 ∧ a.2 ≤ k) ∧ (L.length : Int) ≤ k ∧ ∀ j, j < a.1 → TBs 1048576 (Msg.T (L.getD j Msg0))) (fun (a : Nat × Int) => L.length - a.1) (0, k - (L.map Msg.T).length) ?_ ?_ ?_
  ·exact ⟨Nat.zero_le _, by dsimp only; omega, by omega, fun j hj => absurd hj (Nat.not_lt_zero j)⟩
  ·(repeat first | exact LE.nil _ | refine LE.unk _ _ ?_ | refine LE.eq _ _ _ rfl ?_)
  intro ⟨i, a1⟩ hI ih
  obtain ⟨q0, q1, q2, q3⟩ := hI
  dsimp only at q0 q1 q2 q3 ⊢
  refine A6 (st := []) ?_
  refine br ?_ ?_ <;> intro h5_3
  ·(refine B9 (C5 (by first | rfl | assumption | (exact A9 Msg.T Msg0 (by omega))) rfl ?_))
   refine G2 (lz56 (L.getD i Msg0) a1 (by omega) (hs i (by omega))) rfl j2 ?_
   rintro y h7_5
   try dsimp only at h7_5
   refine br ?_ ?_ <;> intro h8_1
   ·first | exact ⟨-1, ⟨by omega, fun h => by omega⟩, B4 rfl rfl⟩ | exact ⟨a1, ⟨by omega, fun _ => (B1 Msg.T Msg0).2 ⟨by omega, fun j hj => q3 j (by omega)⟩⟩, B4 rfl rfl⟩
   ·refine C0 ?_
    exact N4 (ih (i + 1, y) ⟨by dsimp only; omega, by dsimp only; omega, by omega, fun j hj => by
     by_cases e : j = i
     ·subst e; exact h7_5.2 (by omega)
     ·exact q3 j (by dsimp only at hj; omega)⟩ (by dsimp only; omega)) (by (repeat first | exact LE.nil _ | refine LE.unk _ _ ?_ | refine LE.eq _ _ _ rfl ?_))
  ·first | exact ⟨-1, ⟨by omega, fun h => by omega⟩, B4 rfl rfl⟩ | exact ⟨a1, ⟨by omega, fun _ => (B1 Msg.T Msg0).2 ⟨by omega, fun j hj => q3 j (by omega)⟩⟩, B4 rfl rfl⟩
theorem lt61 (s : Msg) (hb : TBs 1048576 (Msg.T s)) : Pure En 61 [.agg (Msg.T s)] [.agg (Msg.T s)] := by
 obtain ⟨b0, b1, b2⟩ := Msg.tb.1 hb
 refine Pure.of_ev (st := []) Tryz.func61 rfl kb ?_
 refine A1 ?_
 (apply est (u := .int _ _) j3; exact Q0; rfl; exact j4; exact kb; rfl)
 refine A1 ?_
 (apply est (u := .int _ _) j3; exact Q0; rfl; exact j4; exact kb; rfl)
 refine A1 ?_
 (apply est (u := .int _ _) j3; exact Q0; rfl; exact j4; exact kb; rfl)
 refine A1 ?_
 (apply est (u := .int _ _) j3; exact Q0; rfl; exact j4; exact kb; rfl)
 refine A1 ?_
 (apply est (u := .str _) j3; exact Q0; rfl; exact j4; exact kb; rfl)
 refine A1 ?_
 (apply est (u := .str _) j3; exact Q0; rfl; exact j4; exact kb; rfl)
 refine A1 ?_
 (apply est (u := .str _) j3; exact Q0; rfl; exact j4; exact kb; rfl)
 (apply C3 (vs := [.int _ _, .int _ _, .int _ _, .int _ _, .str _, .str _, .str _]) j2; exact Q0; rfl; rfl; exact kb; rfl)
 (apply est (u := .agg [.int _ _, .int _ _, .int _ _, .int _ _, .str _, .str _, .str _]) j3; exact Q0; rfl; exact j4; exact kb; rfl)
 refine C9 [] (A0 (A3 (xs := (Msg.T s).map (T.toV true)) rfl (by exact Q0) j2 kb rfl) A2) ?_
 exact SnapL.cons _ _ _ _ (SnapC.agg (E1 _)) SnapL.nil
theorem lt15 (L : List Msg) (hb : TB 1048576 (.sl false (L.map Msg.T))) : Pure En 15 [.one (.sl false (L.map Msg.T))] [.one (.sl false (L.map Msg.T))] := by
 have hl : (L.map Msg.T).length = L.length := List.length_map ..
 obtain ⟨hm, hs⟩ := (B1 Msg.T Msg0).1 hb
 refine Pure.of_ev (st := []) Tryz.func15 rfl kb ?_
 refine emk (s' := 80) j6 kz ?_ ?_ ?_
 ·exact Q8
 ·exact Q8
 refine B3 (fun (i : Nat) => [.sl false false (L.map Msg.T), .unk, .unk, .view 0 0 (L.map Msg.T).length, .int .i64 i]) (fun (i : Nat) => hp [(0, ⟨mkG (vT Msg.T) [.int .i64 0, .int .i64 0, .int .i64 0, .int .i64 0, .str ⟨#[]⟩, .str ⟨#[]⟩, .str ⟨#[]⟩] L i, 7, 37⟩)]) (fun (i : Nat) => 1) (fun (i : Nat) => i ≤ L.length) (fun (i : Nat) => L.length - i) 0 ?_ ?_ ?_ ?_ ?_
 ·exact Nat.zero_le _
 ·(repeat first | exact LE.nil _ | refine LE.unk _ _ ?_ | refine LE.eq _ _ _ rfl ?_)
 ·(repeat first | exact A5 | (refine A4 ?_ ?_; (first | exact Q0 | ((simp (disch := omega) only [↓app0, ↓appC, ↓updS, ↓updN, ↓hpS, ↓hpN]); exact congrArg (fun z => some (Blk.mk z 7 37)) (by rw [E9, ← hl]; rfl)))))
 ·exact Nat.le_refl _
 intro i hI ih
 refine A6 (st := []) ?_
 refine br ?_ ?_ <;> intro h3_3
 ·(refine B9 (C5 (by first | rfl | assumption | (exact A9 Msg.T Msg0 (by omega))) rfl ?_))
  refine C1 (lt61 (L.getD i Msg0) (hs i (by omega))) rfl rfl rfl ?_
  (refine H1 (by exact Q0) ⟨rfl, B9 ?_⟩)
  (apply est j3; exact Q0; exact H2 (vT Msg.T) [.int .i64 0, .int .i64 0, .int .i64 0, .int .i64 0, .str ⟨#[]⟩, .str ⟨#[]⟩, .str ⟨#[]⟩] (by omega); exact j4; exact kb; rfl)
  refine C0 ?_
  exact C6 (ih (i + 1) (by omega) (by omega)) (by (repeat first | exact LE.nil _ | refine LE.unk _ _ ?_ | refine LE.eq _ _ _ rfl ?_)) (by (repeat first | exact A5 | (refine A4 ?_ ?_; ((simp (disch := omega) only [↓app0, ↓appC, ↓updS, ↓updN, ↓hpS, ↓hpN]); exact congrArg (fun z => some (Blk.mk z 7 37)) (H3 (vT Msg.T) [.int .i64 0, .int .i64 0, .int .i64 0, .int .i64 0, .str ⟨#[]⟩, .str ⟨#[]⟩, .str ⟨#[]⟩] Msg0 (by omega)))))) (Nat.le_refl _)
 ·obtain rfl : i = L.length := by omega
  refine C9 [0] rfl ?_
  exact SnapL.cons _ _ _ _ (.one _ _ (F2 (sz := 7) (ty := 37) (by simp) (by (simp (disch := omega) only [↓app0, ↓appC, ↓updS, ↓updN, ↓hpS, ↓hpN]); exact congrArg (fun z => some (Blk.mk z 7 37)) (F0 (vT Msg.T) [.int .i64 0, .int .i64 0, .int .i64 0, .int .i64 0, .str ⟨#[]⟩, .str ⟨#[]⟩, .str ⟨#[]⟩] L)) hl)) SnapL.nil
theorem le66 (s : Msg) (hb : TBs 1048576 (Msg.T s)) : Pure En 66 [.agg (Msg.T s), .agg (Msg.T s)] [.one (.bool true)] := by
 obtain ⟨b0, b1, b2⟩ := Msg.tb.1 hb
 refine Pure.of_ev (st := []) Tryz.func66 rfl kb ?_
 refine A1 ?_
 refine A1 ?_
 refine br ?_ ?_ <;> intro h1_4
 ·first | exact B4 rfl rfl | contradiction | (exfalso; simp_all; done)
 ·refine A1 ?_
  refine A1 ?_
  refine br ?_ ?_ <;> intro h3_4
  ·first | exact B4 rfl rfl | contradiction | (exfalso; simp_all; done)
  ·refine A1 ?_
   refine A1 ?_
   refine br ?_ ?_ <;> intro h5_4
   ·first | exact B4 rfl rfl | contradiction | (exfalso; simp_all; done)
   ·refine A1 ?_
    refine A1 ?_
    refine br ?_ ?_ <;> intro h7_4
    ·first | exact B4 rfl rfl | contradiction | (exfalso; simp_all; done)
    ·refine A1 ?_
     refine A1 ?_
     refine br ?_ ?_ <;> intro h9_4
     ·first | exact B4 rfl rfl | contradiction | (exfalso; simp_all; done)
     ·refine A1 ?_
      refine A1 ?_
      refine br ?_ ?_ <;> intro h11_4
      ·first | exact B4 rfl rfl | contradiction | (exfalso; simp_all; done)
      ·refine A1 ?_
       refine A1 ?_
       refine br ?_ ?_ <;> intro h13_4
       ·first | exact B4 rfl rfl | contradiction | (exfalso; simp_all; done)
       ·first | exact B4 rfl rfl | contradiction | (exfalso; simp_all; done)
theorem le18 (L : List Msg) (hb : TB 1048576 (.sl false (L.map Msg.T))) : Pure En 18 [.one (.sl false (L.map Msg.T)), .one (.sl false (L.map Msg.T))] [.one (.bool true)] := by
 have hl : (L.map Msg.T).length = L.length := List.length_map ..
 obtain ⟨hm, hs⟩ := (B1 Msg.T Msg0).1 hb
 refine Pure.of_ev (st := []) Tryz.func18 rfl kb ?_
 refine br ?_ ?_ <;> intro h1_4
 ·first | exact B4 rfl rfl | contradiction | (exfalso; simp_all; done)
 ·refine C4 (fun (i : Nat) => [.sl false false (L.map Msg.T), .sl false false (L.map Msg.T), .unk, .unk, .unk, .int .i64 i]) (fun (i : Nat) => i ≤ L.length) (fun (i : Nat) => L.length - i) 0 ?_ ?_ ?_
  ·exact Nat.zero_le _
  ·(repeat first | exact LE.nil _ | refine LE.unk _ _ ?_ | refine LE.eq _ _ _ rfl ?_)
  intro i hI ih
  refine A6 (st := []) ?_
  refine br ?_ ?_ <;> intro h4_3
  ·(refine B9 (C5 (by first | rfl | assumption | (exact A9 Msg.T Msg0 (by omega))) rfl ?_))
   (refine B9 (C5 (by first | rfl | assumption | (exact A9 Msg.T Msg0 (by omega))) rfl ?_))
   refine C1 (le66 (L.getD i Msg0) (hs i (by omega))) rfl rfl rfl ?_
   refine C0 ?_
   exact N4 (ih (i + 1) (by omega) (by omega)) (by (repeat first | exact LE.nil _ | refine LE.unk _ _ ?_ | refine LE.eq _ _ _ rfl ?_))
  ·first | exact B4 rfl rfl | contradiction | (exfalso; simp_all; done)
theorem lz73 (L : List ByteArray) (k : Int) (hk : 0 ≤ k ∧ k ≤ 1048576) (hb : TB 9223372036854775807 (.sl false (L.map tT))) : ∃ x : Int, ((-1 ≤ x ∧ x ≤ k) ∧ (0 ≤ x → TB 1048576 (.sl false (L.map tT)))) ∧ Pure En 73 [.one (.sl false (L.map tT)), .one (.int .i64 k)] [.one (.int .i64 x)] := by
 have hl : (L.map tT).length = L.length := List.length_map ..
 obtain ⟨hm, hs⟩ := (B1 tT (⟨#[]⟩ : ByteArray)).1 hb
 refine Pure.of_evX (st := []) Tryz.func73 rfl kb ?_
 refine C0 ?_
 refine br ?_ ?_ <;> intro h2_1
 ·first | exact ⟨-1, ⟨by omega, fun h => by omega⟩, B4 rfl rfl⟩ | exact ⟨a1, ⟨by omega, fun _ => (B1 tT (⟨#[]⟩ : ByteArray)).2 ⟨by omega, fun j hj => q3 j (by omega)⟩⟩, B4 rfl rfl⟩
 ·refine C4 (fun (a : Nat × Int) => [.sl false false (L.map tT), .int .i64 a.2, .unk, .unk, .unk, .int .i64 a.1]) (fun (a : Nat × Int) => a.1 ≤ L.length ∧ (0 ≤ a.2 ∧ a.2 ≤ k) ∧ (L.length : Int) ≤ k ∧ ∀ j, j < a.1 → TBs 1048576 (tT (L.getD j (⟨#[]⟩ : ByteArray)))) (fun (a : Nat × Int) => L.length - a.1) (0, k - (L.map tT).length) ?_ ?_ ?_
  ·exact ⟨Nat.zero_le _, by dsimp only; omega, by omega, fun j hj => absurd hj (Nat.not_lt_zero j)⟩
  ·(repeat first | exact LE.nil _ | refine LE.unk _ _ ?_ | refine LE.eq _ _ _ rfl ?_)
  intro ⟨i, a1⟩ hI ih
  obtain ⟨q0, q1, q2, q3⟩ := hI
  dsimp only at q0 q1 q2 q3 ⊢
  have hz : i < L.length → (L.getD i (⟨#[]⟩ : ByteArray)).size ≤ 9223372036854775807 := fun hi => H4.1 (D1.1 (hs i hi)).1
  have hzz : (L.getD ((i : Int)).toNat (⟨#[]⟩ : ByteArray)).size = (L.getD i (⟨#[]⟩ : ByteArray)).size := rfl
  refine A6 (st := []) ?_
  refine br ?_ ?_ <;> intro h5_3
  ·(refine B9 (C5 (by first | rfl | assumption | (exact A9 tT (⟨#[]⟩ : ByteArray) (by omega))) rfl ?_))
   refine C0 ?_
   refine br ?_ ?_ <;> intro h8_1
   ·first | exact ⟨-1, ⟨by omega, fun h => by omega⟩, B4 rfl rfl⟩ | exact ⟨a1, ⟨by omega, fun _ => (B1 tT (⟨#[]⟩ : ByteArray)).2 ⟨by omega, fun j hj => q3 j (by omega)⟩⟩, B4 rfl rfl⟩
   ·refine C0 ?_
    exact N4 (ih (i + 1, (a1 - (L.getD i (⟨#[]⟩ : ByteArray)).size)) ⟨by dsimp only; omega, by dsimp only; omega, by omega, fun j hj => by
     by_cases e : j = i
     ·subst e; exact D1.2 ⟨H4.2 (by omega), E0.2 trivial⟩
     ·exact q3 j (by dsimp only at hj; omega)⟩ (by dsimp only; omega)) (by (repeat first | exact LE.nil _ | refine LE.unk _ _ ?_ | refine LE.eq _ _ _ rfl ?_))
  ·first | exact ⟨-1, ⟨by omega, fun h => by omega⟩, B4 rfl rfl⟩ | exact ⟨a1, ⟨by omega, fun _ => (B1 tT (⟨#[]⟩ : ByteArray)).2 ⟨by omega, fun j hj => q3 j (by omega)⟩⟩, B4 rfl rfl⟩
theorem lt80 (L : List ByteArray) (hb : TB 1048576 (.sl false (L.map tT))) : Pure En 80 [.one (.sl false (L.map tT))] [.one (.sl false (L.map tT))] := by
 have hl : (L.map tT).length = L.length := List.length_map ..
 obtain ⟨hm, hs⟩ := (B1 tT (⟨#[]⟩ : ByteArray)).1 hb
 refine Pure.of_ev (st := []) Tryz.func80 rfl kb ?_
 refine emk (s' := 16) j6 kz ?_ ?_ ?_
 ·exact Q8
 ·exact Q8
 refine B3 (fun (i : Nat) => [.sl false false (L.map tT), .unk, .unk, .view 0 0 (L.map tT).length, .int .i64 i]) (fun (i : Nat) => hp [(0, ⟨mkG (vT tT) [.str ⟨#[]⟩] L i, 1, 9⟩)]) (fun (i : Nat) => 1) (fun (i : Nat) => i ≤ L.length) (fun (i : Nat) => L.length - i) 0 ?_ ?_ ?_ ?_ ?_
 ·exact Nat.zero_le _
 ·(repeat first | exact LE.nil _ | refine LE.unk _ _ ?_ | refine LE.eq _ _ _ rfl ?_)
 ·(repeat first | exact A5 | (refine A4 ?_ ?_; (first | exact Q0 | ((simp (disch := omega) only [↓app0, ↓appC, ↓updS, ↓updN, ↓hpS, ↓hpN]); exact congrArg (fun z => some (Blk.mk z 1 9)) (by rw [E9, ← hl]; rfl)))))
 ·exact Nat.le_refl _
 intro i hI ih
 refine A6 (st := []) ?_
 refine br ?_ ?_ <;> intro h3_3
 ·(refine B9 (C5 (by first | rfl | assumption | (exact A9 tT (⟨#[]⟩ : ByteArray) (by omega))) rfl ?_))
  (refine H1 (by exact Q0) ⟨rfl, B9 ?_⟩)
  (apply est j3; exact Q0; exact H2 (vT tT) [.str ⟨#[]⟩] (by omega); exact j4; exact kb; rfl)
  refine C0 ?_
  exact C6 (ih (i + 1) (by omega) (by omega)) (by (repeat first | exact LE.nil _ | refine LE.unk _ _ ?_ | refine LE.eq _ _ _ rfl ?_)) (by (repeat first | exact A5 | (refine A4 ?_ ?_; ((simp (disch := omega) only [↓app0, ↓appC, ↓updS, ↓updN, ↓hpS, ↓hpN]); exact congrArg (fun z => some (Blk.mk z 1 9)) (H3 (vT tT) [.str ⟨#[]⟩] (⟨#[]⟩ : ByteArray) (by omega)))))) (Nat.le_refl _)
 ·obtain rfl : i = L.length := by omega
  refine C9 [0] rfl ?_
  exact SnapL.cons _ _ _ _ (.one _ _ (F2 (sz := 1) (ty := 9) (by simp) (by (simp (disch := omega) only [↓app0, ↓appC, ↓updS, ↓updN, ↓hpS, ↓hpN]); exact congrArg (fun z => some (Blk.mk z 1 9)) (F0 (vT tT) [.str ⟨#[]⟩] L)) hl)) SnapL.nil
theorem le17 (L : List ByteArray) (hb : TB 1048576 (.sl false (L.map tT))) : Pure En 17 [.one (.sl false (L.map tT)), .one (.sl false (L.map tT))] [.one (.bool true)] := by
 have hl : (L.map tT).length = L.length := List.length_map ..
 obtain ⟨hm, hs⟩ := (B1 tT (⟨#[]⟩ : ByteArray)).1 hb
 refine Pure.of_ev (st := []) Tryz.func17 rfl kb ?_
 refine br ?_ ?_ <;> intro h1_4
 ·first | exact B4 rfl rfl | contradiction | (exfalso; simp_all; done)
 ·refine C4 (fun (i : Nat) => [.sl false false (L.map tT), .sl false false (L.map tT), .unk, .unk, .unk, .int .i64 i]) (fun (i : Nat) => i ≤ L.length) (fun (i : Nat) => L.length - i) 0 ?_ ?_ ?_
  ·exact Nat.zero_le _
  ·(repeat first | exact LE.nil _ | refine LE.unk _ _ ?_ | refine LE.eq _ _ _ rfl ?_)
  intro i hI ih
  refine A6 (st := []) ?_
  refine br ?_ ?_ <;> intro h4_3
  ·(refine B9 (C5 (by first | rfl | assumption | (exact A9 tT (⟨#[]⟩ : ByteArray) (by omega))) rfl ?_))
   (refine B9 (C5 (by first | rfl | assumption | (exact A9 tT (⟨#[]⟩ : ByteArray) (by omega))) rfl ?_))
   refine br ?_ ?_ <;> intro h6_8
   ·first | exact B4 rfl rfl | contradiction | (exfalso; simp_all; done)
   ·refine C0 ?_
    exact N4 (ih (i + 1) (by omega) (by omega)) (by (repeat first | exact LE.nil _ | refine LE.unk _ _ ?_ | refine LE.eq _ _ _ rfl ?_))
  ·first | exact B4 rfl rfl | contradiction | (exfalso; simp_all; done)
theorem lz150 (s : Ct) (k : Int) (hk : 0 ≤ k ∧ k ≤ 1048576) (hb : TBs 9223372036854775807 ((Ct.T false) s)) : ∃ x : Int, ((-1 ≤ x ∧ x ≤ k) ∧ (0 ≤ x → TBs 1048576 ((Ct.T false) s))) ∧ Pure En 150 [.agg ((Ct.T false) s), .one (.int .i64 k)] [.one (.int .i64 x)] := by
 obtain ⟨b0, b1⟩ := Ct.tb.1 hb
 refine Pure.of_evX (st := []) Tryz.func150 rfl kb ?_
 refine A1 ?_
 refine C0 ?_
 refine br ?_ ?_ <;> intro h2_1
 ·first | exact ⟨-1, ⟨by omega, fun h => by omega⟩, B4 rfl rfl⟩ | exact ⟨_, ⟨by omega, fun hx => Ct.tb.2 ⟨by omega, h4_3.2 (by omega)⟩⟩, B4 rfl rfl⟩
 ·refine A1 ?_
  refine G2 (lz13 s.ps (k - (s.bd.size : Int)) (by omega) b1) rfl j2 ?_
  rintro y1 h4_3
  try dsimp only at h4_3
  refine br ?_ ?_ <;> intro h5_1
  ·first | exact ⟨-1, ⟨by omega, fun h => by omega⟩, B4 rfl rfl⟩ | exact ⟨_, ⟨by omega, fun hx => Ct.tb.2 ⟨by omega, h4_3.2 (by omega)⟩⟩, B4 rfl rfl⟩
  ·first | exact ⟨-1, ⟨by omega, fun h => by omega⟩, B4 rfl rfl⟩ | exact ⟨_, ⟨by omega, fun hx => Ct.tb.2 ⟨by omega, h4_3.2 (by omega)⟩⟩, B4 rfl rfl⟩
theorem lz72 (L : List Ct) (k : Int) (hk : 0 ≤ k ∧ k ≤ 1048576) (hb : TB 9223372036854775807 (.sl false (L.map (Ct.T false)))) : ∃ x : Int, ((-1 ≤ x ∧ x ≤ k) ∧ (0 ≤ x → TB 1048576 (.sl false (L.map (Ct.T false))))) ∧ Pure En 72 [.one (.sl false (L.map (Ct.T false))), .one (.int .i64 k)] [.one (.int .i64 x)] := by
 have hl : (L.map (Ct.T false)).length = L.length := List.length_map ..
 obtain ⟨hm, hs⟩ := (B1 (Ct.T false) Ct0).1 hb
 refine Pure.of_evX (st := []) Tryz.func72 rfl kb ?_
 refine C0 ?_
 refine br ?_ ?_ <;> intro h2_1
 ·first | exact ⟨-1, ⟨by omega, fun h => by omega⟩, B4 rfl rfl⟩ | exact ⟨a1, ⟨by omega, fun _ => (B1 (Ct.T false) Ct0).2 ⟨by omega, fun j hj => q3 j (by omega)⟩⟩, B4 rfl rfl⟩
 ·refine C4 (fun (a : Nat × Int) => [.sl false false (L.map (Ct.T false)), .int .i64 a.2, .unk, .unk, .unk, .int .i64 a.1]) (fun (a : Nat × Int) => a.1 ≤ L.length ∧ (0 ≤ a.2 ∧ a.2 ≤ k) ∧ (L.length : Int) ≤ k ∧ ∀ j, j < a.1 → TBs 1048576 ((Ct.T false) (L.getD j Ct0))) (fun (a : Nat × Int) => L.length - a.1) (0, k - (L.map (Ct.T false)).length) ?_ ?_ ?_
  ·exact ⟨Nat.zero_le _, by dsimp only; omega, by omega, fun j hj => absurd hj (Nat.not_lt_zero j)⟩
  ·(repeat first | exact LE.nil _ | refine LE.unk _ _ ?_ | refine LE.eq _ _ _ rfl ?_)
  intro ⟨i, a1⟩ hI ih
  obtain ⟨q0, q1, q2, q3⟩ := hI
  dsimp only at q0 q1 q2 q3 ⊢
  refine A6 (st := []) ?_
  refine br ?_ ?_ <;> intro h5_3
  ·(refine B9 (C5 (by first | rfl | assumption | (exact A9 (Ct.T false) Ct0 (by omega))) rfl ?_))
   refine G2 (lz150 (L.getD i Ct0) a1 (by omega) (hs i (by omega))) rfl j2 ?_
   rintro y h7_5
   try dsimp only at h7_5
   refine br ?_ ?_ <;> intro h8_1
   ·first | exact ⟨-1, ⟨by omega, fun h => by omega⟩, B4 rfl rfl⟩ | exact ⟨a1, ⟨by omega, fun _ => (B1 (Ct.T false) Ct0).2 ⟨by omega, fun j hj => q3 j (by omega)⟩⟩, B4 rfl rfl⟩
   ·refine C0 ?_
    exact N4 (ih (i + 1, y) ⟨by dsimp only; omega, by dsimp only; omega, by omega, fun j hj => by
     by_cases e : j = i
     ·subst e; exact h7_5.2 (by omega)
     ·exact q3 j (by dsimp only at hj; omega)⟩ (by dsimp only; omega)) (by (repeat first | exact LE.nil _ | refine LE.unk _ _ ?_ | refine LE.eq _ _ _ rfl ?_))
  ·first | exact ⟨-1, ⟨by omega, fun h => by omega⟩, B4 rfl rfl⟩ | exact ⟨a1, ⟨by omega, fun _ => (B1 (Ct.T false) Ct0).2 ⟨by omega, fun j hj => q3 j (by omega)⟩⟩, B4 rfl rfl⟩
theorem lt157 (s : Ct) (hb : TBs 1048576 ((Ct.T false) s)) : Pure En 157 [.agg ((Ct.T false) s)] [.agg ((Ct.T false) s)] := by
 obtain ⟨b0, b1⟩ := Ct.tb.1 hb
 refine Pure.of_ev (st := []) Tryz.func157 rfl kb ?_
 refine A1 ?_
 (apply est (u := .str _) j3; exact Q0; rfl; exact j4; exact kb; rfl)
 refine A1 ?_
 refine C1 (lt15 s.ps b1) rfl rfl rfl ?_
 (apply est (u := .sl _ _ _) j3; exact Q0; rfl; exact j4; exact kb; rfl)
 (apply C3 (vs := [.str _, _]) j2; exact Q0; rfl; rfl; exact kb; rfl)
 (apply est (u := .agg [.str _, _]) j3; exact Q0; rfl; exact j4; exact kb; rfl)
 refine C9 [] (A0 (A3 (xs := ((Ct.T false) s).map (T.toV true)) rfl (by exact Q0) j2 kb rfl) A2) ?_
 exact SnapL.cons _ _ _ _ (SnapC.agg (E1 _)) SnapL.nil
theorem lt79 (L : List Ct) (hb : TB 1048576 (.sl false (L.map (Ct.T false)))) : Pure En 79 [.one (.sl false (L.map (Ct.T false)))] [.one (.sl false (L.map (Ct.T false)))] := by
 have hl : (L.map (Ct.T false)).length = L.length := List.length_map ..
 obtain ⟨hm, hs⟩ := (B1 (Ct.T false) Ct0).1 hb
 refine Pure.of_ev (st := []) Tryz.func79 rfl kb ?_
 refine emk (s' := 40) j6 kz ?_ ?_ ?_
 ·exact Q8
 ·exact Q8
 refine B3 (fun (i : Nat) => [.sl false false (L.map (Ct.T false)), .unk, .unk, .view 0 0 (L.map (Ct.T false)).length, .int .i64 i]) (fun (i : Nat) => hp [(0, ⟨mkG (vT (Ct.T false)) [.str ⟨#[]⟩, .nsl] L i, 2, 44⟩)]) (fun (i : Nat) => 1) (fun (i : Nat) => i ≤ L.length) (fun (i : Nat) => L.length - i) 0 ?_ ?_ ?_ ?_ ?_
 ·exact Nat.zero_le _
 ·(repeat first | exact LE.nil _ | refine LE.unk _ _ ?_ | refine LE.eq _ _ _ rfl ?_)
 ·(repeat first | exact A5 | (refine A4 ?_ ?_; (first | exact Q0 | ((simp (disch := omega) only [↓app0, ↓appC, ↓updS, ↓updN, ↓hpS, ↓hpN]); exact congrArg (fun z => some (Blk.mk z 2 44)) (by rw [E9, ← hl]; rfl)))))
 ·exact Nat.le_refl _
 intro i hI ih
 refine A6 (st := []) ?_
 refine br ?_ ?_ <;> intro h3_3
 ·(refine B9 (C5 (by first | rfl | assumption | (exact A9 (Ct.T false) Ct0 (by omega))) rfl ?_))
  refine C1 (lt157 (L.getD i Ct0) (hs i (by omega))) rfl rfl rfl ?_
  (refine H1 (by exact Q0) ⟨rfl, B9 ?_⟩)
  (apply est j3; exact Q0; exact H2 (vT (Ct.T false)) [.str ⟨#[]⟩, .nsl] (by omega); exact j4; exact kb; rfl)
  refine C0 ?_
  exact C6 (ih (i + 1) (by omega) (by omega)) (by (repeat first | exact LE.nil _ | refine LE.unk _ _ ?_ | refine LE.eq _ _ _ rfl ?_)) (by (repeat first | exact A5 | (refine A4 ?_ ?_; ((simp (disch := omega) only [↓app0, ↓appC, ↓updS, ↓updN, ↓hpS, ↓hpN]); exact congrArg (fun z => some (Blk.mk z 2 44)) (H3 (vT (Ct.T false)) [.str ⟨#[]⟩, .nsl] Ct0 (by omega)))))) (Nat.le_refl _)
 ·obtain rfl : i = L.length := by omega
  refine C9 [0] rfl ?_
  exact SnapL.cons _ _ _ _ (.one _ _ (F2 (sz := 2) (ty := 44) (by simp) (by (simp (disch := omega) only [↓app0, ↓appC, ↓updS, ↓updN, ↓hpS, ↓hpN]); exact congrArg (fun z => some (Blk.mk z 2 44)) (F0 (vT (Ct.T false)) [.str ⟨#[]⟩, .nsl] L)) hl)) SnapL.nil
theorem le163 (s : Ct) (hb : TBs 1048576 ((Ct.T false) s)) : Pure En 163 [.agg ((Ct.T false) s), .agg ((Ct.T false) s)] [.one (.bool true)] := by
 obtain ⟨b0, b1⟩ := Ct.tb.1 hb
 refine Pure.of_ev (st := []) Tryz.func163 rfl kb ?_
 refine A1 ?_
 refine A1 ?_
 refine br ?_ ?_ <;> intro h1_4
 ·first | exact B4 rfl rfl | contradiction | (exfalso; simp_all; done)
 ·refine A1 ?_
  refine A1 ?_
  refine C1 (le18 s.ps b1) rfl rfl rfl ?_
  first | exact B4 rfl rfl | contradiction | (exfalso; simp_all; done)
theorem le88 (L : List Ct) (hb : TB 1048576 (.sl false (L.map (Ct.T false)))) : Pure En 88 [.one (.sl false (L.map (Ct.T false))), .one (.sl false (L.map (Ct.T false)))] [.one (.bool true)] := by
 have hl : (L.map (Ct.T false)).length = L.length := List.length_map ..
 obtain ⟨hm, hs⟩ := (B1 (Ct.T false) Ct0).1 hb
 refine Pure.of_ev (st := []) Tryz.func88 rfl kb ?_
 refine br ?_ ?_ <;> intro h1_4
 ·first | exact B4 rfl rfl | contradiction | (exfalso; simp_all; done)
 ·refine C4 (fun (i : Nat) => [.sl false false (L.map (Ct.T false)), .sl false false (L.map (Ct.T false)), .unk, .unk, .unk, .int .i64 i]) (fun (i : Nat) => i ≤ L.length) (fun (i : Nat) => L.length - i) 0 ?_ ?_ ?_
  ·exact Nat.zero_le _
  ·(repeat first | exact LE.nil _ | refine LE.unk _ _ ?_ | refine LE.eq _ _ _ rfl ?_)
  intro i hI ih
  refine A6 (st := []) ?_
  refine br ?_ ?_ <;> intro h4_3
  ·(refine B9 (C5 (by first | rfl | assumption | (exact A9 (Ct.T false) Ct0 (by omega))) rfl ?_))
   (refine B9 (C5 (by first | rfl | assumption | (exact A9 (Ct.T false) Ct0 (by omega))) rfl ?_))
   refine C1 (le163 (L.getD i Ct0) (hs i (by omega))) rfl rfl rfl ?_
   refine C0 ?_
   exact N4 (ih (i + 1) (by omega) (by omega)) (by (repeat first | exact LE.nil _ | refine LE.unk _ _ ?_ | refine LE.eq _ _ _ rfl ?_))
  ·first | exact B4 rfl rfl | contradiction | (exfalso; simp_all; done)
theorem lz149 (s : Slt) (k : Int) (hk : 0 ≤ k ∧ k ≤ 1048576) (hb : TBs 9223372036854775807 (Slt.T s)) : ∃ x : Int, ((-1 ≤ x ∧ x ≤ k) ∧ (0 ≤ x → TBs 1048576 (Slt.T s))) ∧ Pure En 149 [.agg (Slt.T s), .one (.int .i64 k)] [.one (.int .i64 x)] := by
 obtain ⟨b0, b1, b2⟩ := Slt.tb.1 hb
 refine Pure.of_evX (st := []) Tryz.func149 rfl kb ?_
 refine A1 ?_
 refine C0 ?_
 refine br ?_ ?_ <;> intro h2_1
 ·first | exact ⟨-1, ⟨by omega, fun h => by omega⟩, B4 rfl rfl⟩ | exact ⟨_, ⟨by omega, fun hx => Slt.tb.2 ⟨by omega, h4_3.2 (by omega), h7_3.2 (by omega)⟩⟩, B4 rfl rfl⟩
 ·refine A1 ?_
  refine G2 (lz13 s.pr (k - (s.bd.size : Int)) (by omega) b1) rfl j2 ?_
  rintro y1 h4_3
  try dsimp only at h4_3
  refine br ?_ ?_ <;> intro h5_1
  ·first | exact ⟨-1, ⟨by omega, fun h => by omega⟩, B4 rfl rfl⟩ | exact ⟨_, ⟨by omega, fun hx => Slt.tb.2 ⟨by omega, h4_3.2 (by omega), h7_3.2 (by omega)⟩⟩, B4 rfl rfl⟩
  ·refine A1 ?_
   refine G2 (lz13 s.cm (y1) (by omega) b2) rfl j2 ?_
   rintro y2 h7_3
   try dsimp only at h7_3
   refine br ?_ ?_ <;> intro h8_1
   ·first | exact ⟨-1, ⟨by omega, fun h => by omega⟩, B4 rfl rfl⟩ | exact ⟨_, ⟨by omega, fun hx => Slt.tb.2 ⟨by omega, h4_3.2 (by omega), h7_3.2 (by omega)⟩⟩, B4 rfl rfl⟩
   ·first | exact ⟨-1, ⟨by omega, fun h => by omega⟩, B4 rfl rfl⟩ | exact ⟨_, ⟨by omega, fun hx => Slt.tb.2 ⟨by omega, h4_3.2 (by omega), h7_3.2 (by omega)⟩⟩, B4 rfl rfl⟩
theorem lz71 (L : List Slt) (k : Int) (hk : 0 ≤ k ∧ k ≤ 1048576) (hb : TB 9223372036854775807 (.sl false (L.map Slt.T))) : ∃ x : Int, ((-1 ≤ x ∧ x ≤ k) ∧ (0 ≤ x → TB 1048576 (.sl false (L.map Slt.T)))) ∧ Pure En 71 [.one (.sl false (L.map Slt.T)), .one (.int .i64 k)] [.one (.int .i64 x)] := by
 have hl : (L.map Slt.T).length = L.length := List.length_map ..
 obtain ⟨hm, hs⟩ := (B1 Slt.T Slt0).1 hb
 refine Pure.of_evX (st := []) Tryz.func71 rfl kb ?_
 refine C0 ?_
 refine br ?_ ?_ <;> intro h2_1
 ·first | exact ⟨-1, ⟨by omega, fun h => by omega⟩, B4 rfl rfl⟩ | exact ⟨a1, ⟨by omega, fun _ => (B1 Slt.T Slt0).2 ⟨by omega, fun j hj => q3 j (by omega)⟩⟩, B4 rfl rfl⟩
 ·refine C4 (fun (a : Nat × Int) => [.sl false false (L.map Slt.T), .int .i64 a.2, .unk, .unk, .unk, .int .i64 a.1]) (fun (a : Nat × Int) => a.1 ≤ L.length ∧ (0 ≤ a.2 ∧ a.2 ≤ k) ∧ (L.length : Int) ≤ k ∧ ∀ j, j < a.1 → TBs 1048576 (Slt.T (L.getD j Slt0))) (fun (a : Nat × Int) => L.length - a.1) (0, k - (L.map Slt.T).length) ?_ ?_ ?_
  ·exact ⟨Nat.zero_le _, by dsimp only; omega, by omega, fun j hj => absurd hj (Nat.not_lt_zero j)⟩
  ·(repeat first | exact LE.nil _ | refine LE.unk _ _ ?_ | refine LE.eq _ _ _ rfl ?_)
  intro ⟨i, a1⟩ hI ih
  obtain ⟨q0, q1, q2, q3⟩ := hI
  dsimp only at q0 q1 q2 q3 ⊢
  refine A6 (st := []) ?_
  refine br ?_ ?_ <;> intro h5_3
  ·(refine B9 (C5 (by first | rfl | assumption | (exact A9 Slt.T Slt0 (by omega))) rfl ?_))
   refine G2 (lz149 (L.getD i Slt0) a1 (by omega) (hs i (by omega))) rfl j2 ?_
   rintro y h7_5
   try dsimp only at h7_5
   refine br ?_ ?_ <;> intro h8_1
   ·first | exact ⟨-1, ⟨by omega, fun h => by omega⟩, B4 rfl rfl⟩ | exact ⟨a1, ⟨by omega, fun _ => (B1 Slt.T Slt0).2 ⟨by omega, fun j hj => q3 j (by omega)⟩⟩, B4 rfl rfl⟩
   ·refine C0 ?_
    exact N4 (ih (i + 1, y) ⟨by dsimp only; omega, by dsimp only; omega, by omega, fun j hj => by
     by_cases e : j = i
     ·subst e; exact h7_5.2 (by omega)
     ·exact q3 j (by dsimp only at hj; omega)⟩ (by dsimp only; omega)) (by (repeat first | exact LE.nil _ | refine LE.unk _ _ ?_ | refine LE.eq _ _ _ rfl ?_))
  ·first | exact ⟨-1, ⟨by omega, fun h => by omega⟩, B4 rfl rfl⟩ | exact ⟨a1, ⟨by omega, fun _ => (B1 Slt.T Slt0).2 ⟨by omega, fun j hj => q3 j (by omega)⟩⟩, B4 rfl rfl⟩
theorem lt156 (s : Slt) (hb : TBs 1048576 (Slt.T s)) : Pure En 156 [.agg (Slt.T s)] [.agg (Slt.T s)] := by
 obtain ⟨b0, b1, b2⟩ := Slt.tb.1 hb
 refine Pure.of_ev (st := []) Tryz.func156 rfl kb ?_
 refine A1 ?_
 (apply est (u := .str _) j3; exact Q0; rfl; exact j4; exact kb; rfl)
 refine A1 ?_
 refine C1 (lt15 s.pr b1) rfl rfl rfl ?_
 (apply est (u := .sl _ _ _) j3; exact Q0; rfl; exact j4; exact kb; rfl)
 refine A1 ?_
 refine C1 (lt15 s.cm b2) rfl rfl rfl ?_
 (apply est (u := .sl _ _ _) j3; exact Q0; rfl; exact j4; exact kb; rfl)
 refine A1 ?_
 refine brB ?_ ?_ <;> intro h5_1
 ·(apply est (u := .bool _) j3; exact Q0; rfl; exact j4; exact kb; rfl)
  refine A1 ?_
  refine brB ?_ ?_ <;> intro h6_1
  ·(apply est (u := .bool _) j3; exact Q0; rfl; exact j4; exact kb; rfl)
   (apply C3 (vs := [.str _, _, _, .bool _, .bool _]) j2; exact Q0; rfl; rfl; exact kb; rfl)
   (apply est (u := .agg [.str _, _, _, .bool _, .bool _]) j3; exact Q0; rfl; exact j4; exact kb; rfl)
   refine C9 [] (A0 (A3 (xs := (Slt.T s).map (T.toV true)) rfl (by exact Q0) j2 kb (by simp only [Slt.T, ‹s.se = _›, ‹s.dn = _›] <;> rfl)) A2) ?_
   exact SnapL.cons _ _ _ _ (SnapC.agg (E1 _)) SnapL.nil
  ·(apply est (u := .bool _) j3; exact Q0; rfl; exact j4; exact kb; rfl)
   (apply C3 (vs := [.str _, _, _, .bool _, .bool _]) j2; exact Q0; rfl; rfl; exact kb; rfl)
   (apply est (u := .agg [.str _, _, _, .bool _, .bool _]) j3; exact Q0; rfl; exact j4; exact kb; rfl)
   refine C9 [] (A0 (A3 (xs := (Slt.T s).map (T.toV true)) rfl (by exact Q0) j2 kb (by simp only [Slt.T, ‹s.se = _›, ‹s.dn = _›] <;> rfl)) A2) ?_
   exact SnapL.cons _ _ _ _ (SnapC.agg (E1 _)) SnapL.nil
 ·(apply est (u := .bool _) j3; exact Q0; rfl; exact j4; exact kb; rfl)
  refine A1 ?_
  refine brB ?_ ?_ <;> intro h6_1
  ·(apply est (u := .bool _) j3; exact Q0; rfl; exact j4; exact kb; rfl)
   (apply C3 (vs := [.str _, _, _, .bool _, .bool _]) j2; exact Q0; rfl; rfl; exact kb; rfl)
   (apply est (u := .agg [.str _, _, _, .bool _, .bool _]) j3; exact Q0; rfl; exact j4; exact kb; rfl)
   refine C9 [] (A0 (A3 (xs := (Slt.T s).map (T.toV true)) rfl (by exact Q0) j2 kb (by simp only [Slt.T, ‹s.se = _›, ‹s.dn = _›] <;> rfl)) A2) ?_
   exact SnapL.cons _ _ _ _ (SnapC.agg (E1 _)) SnapL.nil
  ·(apply est (u := .bool _) j3; exact Q0; rfl; exact j4; exact kb; rfl)
   (apply C3 (vs := [.str _, _, _, .bool _, .bool _]) j2; exact Q0; rfl; rfl; exact kb; rfl)
   (apply est (u := .agg [.str _, _, _, .bool _, .bool _]) j3; exact Q0; rfl; exact j4; exact kb; rfl)
   refine C9 [] (A0 (A3 (xs := (Slt.T s).map (T.toV true)) rfl (by exact Q0) j2 kb (by simp only [Slt.T, ‹s.se = _›, ‹s.dn = _›] <;> rfl)) A2) ?_
   exact SnapL.cons _ _ _ _ (SnapC.agg (E1 _)) SnapL.nil
theorem lt78 (L : List Slt) (hb : TB 1048576 (.sl false (L.map Slt.T))) : Pure En 78 [.one (.sl false (L.map Slt.T))] [.one (.sl false (L.map Slt.T))] := by
 have hl : (L.map Slt.T).length = L.length := List.length_map ..
 obtain ⟨hm, hs⟩ := (B1 Slt.T Slt0).1 hb
 refine Pure.of_ev (st := []) Tryz.func78 rfl kb ?_
 refine emk (s' := 72) j6 kz ?_ ?_ ?_
 ·exact Q8
 ·exact Q8
 refine B3 (fun (i : Nat) => [.sl false false (L.map Slt.T), .unk, .unk, .view 0 0 (L.map Slt.T).length, .int .i64 i]) (fun (i : Nat) => hp [(0, ⟨mkG (vT Slt.T) [.str ⟨#[]⟩, .nsl, .nsl, .bool false, .bool false] L i, 5, 80⟩)]) (fun (i : Nat) => 1) (fun (i : Nat) => i ≤ L.length) (fun (i : Nat) => L.length - i) 0 ?_ ?_ ?_ ?_ ?_
 ·exact Nat.zero_le _
 ·(repeat first | exact LE.nil _ | refine LE.unk _ _ ?_ | refine LE.eq _ _ _ rfl ?_)
 ·(repeat first | exact A5 | (refine A4 ?_ ?_; (first | exact Q0 | ((simp (disch := omega) only [↓app0, ↓appC, ↓updS, ↓updN, ↓hpS, ↓hpN]); exact congrArg (fun z => some (Blk.mk z 5 80)) (by rw [E9, ← hl]; rfl)))))
 ·exact Nat.le_refl _
 intro i hI ih
 refine A6 (st := []) ?_
 refine br ?_ ?_ <;> intro h3_3
 ·(refine B9 (C5 (by first | rfl | assumption | (exact A9 Slt.T Slt0 (by omega))) rfl ?_))
  refine C1 (lt156 (L.getD i Slt0) (hs i (by omega))) rfl rfl rfl ?_
  (refine H1 (by exact Q0) ⟨rfl, B9 ?_⟩)
  (apply est j3; exact Q0; exact H2 (vT Slt.T) [.str ⟨#[]⟩, .nsl, .nsl, .bool false, .bool false] (by omega); exact j4; exact kb; rfl)
  refine C0 ?_
  exact C6 (ih (i + 1) (by omega) (by omega)) (by (repeat first | exact LE.nil _ | refine LE.unk _ _ ?_ | refine LE.eq _ _ _ rfl ?_)) (by (repeat first | exact A5 | (refine A4 ?_ ?_; ((simp (disch := omega) only [↓app0, ↓appC, ↓updS, ↓updN, ↓hpS, ↓hpN]); exact congrArg (fun z => some (Blk.mk z 5 80)) (H3 (vT Slt.T) [.str ⟨#[]⟩, .nsl, .nsl, .bool false, .bool false] Slt0 (by omega)))))) (Nat.le_refl _)
 ·obtain rfl : i = L.length := by omega
  refine C9 [0] rfl ?_
  exact SnapL.cons _ _ _ _ (.one _ _ (F2 (sz := 5) (ty := 80) (by simp) (by (simp (disch := omega) only [↓app0, ↓appC, ↓updS, ↓updN, ↓hpS, ↓hpN]); exact congrArg (fun z => some (Blk.mk z 5 80)) (F0 (vT Slt.T) [.str ⟨#[]⟩, .nsl, .nsl, .bool false, .bool false] L)) hl)) SnapL.nil
theorem le162 (s : Slt) (hb : TBs 1048576 (Slt.T s)) : Pure En 162 [.agg (Slt.T s), .agg (Slt.T s)] [.one (.bool true)] := by
 obtain ⟨b0, b1, b2⟩ := Slt.tb.1 hb
 refine Pure.of_ev (st := []) Tryz.func162 rfl kb ?_
 refine A1 ?_
 refine A1 ?_
 refine br ?_ ?_ <;> intro h1_4
 ·first | exact B4 rfl rfl | contradiction | (exfalso; simp_all; done)
 ·refine A1 ?_
  refine A1 ?_
  refine C1 (le18 s.pr b1) rfl rfl rfl ?_
  refine A1 ?_
  refine A1 ?_
  refine C1 (le18 s.cm b2) rfl rfl rfl ?_
  refine A1 ?_
  refine brB ?_ ?_ <;> intro h7_1
  ·refine A1 ?_
   refine brB ?_ ?_ <;> intro h7_3
   ·refine A1 ?_
    refine brB ?_ ?_ <;> intro h9_1
    ·refine A1 ?_
     refine brB ?_ ?_ <;> intro h9_3
     ·first | exact B4 rfl rfl | contradiction | (exfalso; simp_all; done)
     ·first | exact B4 rfl rfl | contradiction | (exfalso; simp_all; done)
    ·refine A1 ?_
     refine brB ?_ ?_ <;> intro h9_3
     ·first | exact B4 rfl rfl | contradiction | (exfalso; simp_all; done)
     ·first | exact B4 rfl rfl | contradiction | (exfalso; simp_all; done)
   ·first | exact B4 rfl rfl | contradiction | (exfalso; simp_all; done)
  ·refine A1 ?_
   refine brB ?_ ?_ <;> intro h7_3
   ·first | exact B4 rfl rfl | contradiction | (exfalso; simp_all; done)
   ·refine A1 ?_
    refine brB ?_ ?_ <;> intro h9_1
    ·refine A1 ?_
     refine brB ?_ ?_ <;> intro h9_3
     ·first | exact B4 rfl rfl | contradiction | (exfalso; simp_all; done)
     ·first | exact B4 rfl rfl | contradiction | (exfalso; simp_all; done)
    ·refine A1 ?_
     refine brB ?_ ?_ <;> intro h9_3
     ·first | exact B4 rfl rfl | contradiction | (exfalso; simp_all; done)
     ·first | exact B4 rfl rfl | contradiction | (exfalso; simp_all; done)
theorem le87 (L : List Slt) (hb : TB 1048576 (.sl false (L.map Slt.T))) : Pure En 87 [.one (.sl false (L.map Slt.T)), .one (.sl false (L.map Slt.T))] [.one (.bool true)] := by
 have hl : (L.map Slt.T).length = L.length := List.length_map ..
 obtain ⟨hm, hs⟩ := (B1 Slt.T Slt0).1 hb
 refine Pure.of_ev (st := []) Tryz.func87 rfl kb ?_
 refine br ?_ ?_ <;> intro h1_4
 ·first | exact B4 rfl rfl | contradiction | (exfalso; simp_all; done)
 ·refine C4 (fun (i : Nat) => [.sl false false (L.map Slt.T), .sl false false (L.map Slt.T), .unk, .unk, .unk, .int .i64 i]) (fun (i : Nat) => i ≤ L.length) (fun (i : Nat) => L.length - i) 0 ?_ ?_ ?_
  ·exact Nat.zero_le _
  ·(repeat first | exact LE.nil _ | refine LE.unk _ _ ?_ | refine LE.eq _ _ _ rfl ?_)
  intro i hI ih
  refine A6 (st := []) ?_
  refine br ?_ ?_ <;> intro h4_3
  ·(refine B9 (C5 (by first | rfl | assumption | (exact A9 Slt.T Slt0 (by omega))) rfl ?_))
   (refine B9 (C5 (by first | rfl | assumption | (exact A9 Slt.T Slt0 (by omega))) rfl ?_))
   refine C1 (le162 (L.getD i Slt0) (hs i (by omega))) rfl rfl rfl ?_
   refine C0 ?_
   exact N4 (ih (i + 1) (by omega) (by omega)) (by (repeat first | exact LE.nil _ | refine LE.unk _ _ ?_ | refine LE.eq _ _ _ rfl ?_))
  ·first | exact B4 rfl rfl | contradiction | (exfalso; simp_all; done)
theorem lz26 (s : Rep) (k : Int) (hk : 0 ≤ k ∧ k ≤ 1048576) (hb : TBs 9223372036854775807 (Rep.T s)) : ∃ x : Int, ((-1 ≤ x ∧ x ≤ k) ∧ (0 ≤ x → TBs 1048576 (Rep.T s))) ∧ Pure En 26 [.agg (Rep.T s), .one (.int .i64 k)] [.one (.int .i64 x)] := by
 obtain ⟨b0, b1, b2, b3⟩ := Rep.tb.1 hb
 refine Pure.of_evX (st := []) Tryz.func26 rfl kb ?_
 refine A1 ?_
 refine G2 (lz71 s.sl (k) (by omega) b0) rfl j2 ?_
 rintro y0 h1_3
 try dsimp only at h1_3
 refine br ?_ ?_ <;> intro h2_1
 ·first | exact ⟨-1, ⟨by omega, fun h => by omega⟩, B4 rfl rfl⟩ | exact ⟨_, ⟨by omega, fun hx => Rep.tb.2 ⟨h1_3.2 (by omega), h4_3.2 (by omega), h7_3.2 (by omega), h10_3.2 (by omega)⟩⟩, B4 rfl rfl⟩
 ·refine A1 ?_
  refine G2 (lz72 s.cs (y0) (by omega) b1) rfl j2 ?_
  rintro y1 h4_3
  try dsimp only at h4_3
  refine br ?_ ?_ <;> intro h5_1
  ·first | exact ⟨-1, ⟨by omega, fun h => by omega⟩, B4 rfl rfl⟩ | exact ⟨_, ⟨by omega, fun hx => Rep.tb.2 ⟨h1_3.2 (by omega), h4_3.2 (by omega), h7_3.2 (by omega), h10_3.2 (by omega)⟩⟩, B4 rfl rfl⟩
  ·refine A1 ?_
   refine G2 (lz73 s.lg (y1) (by omega) b2) rfl j2 ?_
   rintro y2 h7_3
   try dsimp only at h7_3
   refine br ?_ ?_ <;> intro h8_1
   ·first | exact ⟨-1, ⟨by omega, fun h => by omega⟩, B4 rfl rfl⟩ | exact ⟨_, ⟨by omega, fun hx => Rep.tb.2 ⟨h1_3.2 (by omega), h4_3.2 (by omega), h7_3.2 (by omega), h10_3.2 (by omega)⟩⟩, B4 rfl rfl⟩
   ·refine A1 ?_
    refine G2 (lz13 s.ch (y2) (by omega) b3) rfl j2 ?_
    rintro y3 h10_3
    try dsimp only at h10_3
    refine br ?_ ?_ <;> intro h11_1
    ·first | exact ⟨-1, ⟨by omega, fun h => by omega⟩, B4 rfl rfl⟩ | exact ⟨_, ⟨by omega, fun hx => Rep.tb.2 ⟨h1_3.2 (by omega), h4_3.2 (by omega), h7_3.2 (by omega), h10_3.2 (by omega)⟩⟩, B4 rfl rfl⟩
    ·first | exact ⟨-1, ⟨by omega, fun h => by omega⟩, B4 rfl rfl⟩ | exact ⟨_, ⟨by omega, fun hx => Rep.tb.2 ⟨h1_3.2 (by omega), h4_3.2 (by omega), h7_3.2 (by omega), h10_3.2 (by omega)⟩⟩, B4 rfl rfl⟩
theorem lz90 (L : List Rep) (k : Int) (hk : 0 ≤ k ∧ k ≤ 1048576) (hb : TB 9223372036854775807 (.sl false (L.map Rep.T))) : ∃ x : Int, ((-1 ≤ x ∧ x ≤ k) ∧ (0 ≤ x → TB 1048576 (.sl false (L.map Rep.T)))) ∧ Pure En 90 [.one (.sl false (L.map Rep.T)), .one (.int .i64 k)] [.one (.int .i64 x)] := by
 have hl : (L.map Rep.T).length = L.length := List.length_map ..
 obtain ⟨hm, hs⟩ := (B1 Rep.T Rep0).1 hb
 refine Pure.of_evX (st := []) Tryz.func90 rfl kb ?_
 refine C0 ?_
 refine br ?_ ?_ <;> intro h2_1
 ·first | exact ⟨-1, ⟨by omega, fun h => by omega⟩, B4 rfl rfl⟩ | exact ⟨a1, ⟨by omega, fun _ => (B1 Rep.T Rep0).2 ⟨by omega, fun j hj => q3 j (by omega)⟩⟩, B4 rfl rfl⟩
 ·refine C4 (fun (a : Nat × Int) => [.sl false false (L.map Rep.T), .int .i64 a.2, .unk, .unk, .unk, .int .i64 a.1]) (fun (a : Nat × Int) => a.1 ≤ L.length ∧ (0 ≤ a.2 ∧ a.2 ≤ k) ∧ (L.length : Int) ≤ k ∧ ∀ j, j < a.1 → TBs 1048576 (Rep.T (L.getD j Rep0))) (fun (a : Nat × Int) => L.length - a.1) (0, k - (L.map Rep.T).length) ?_ ?_ ?_
  ·exact ⟨Nat.zero_le _, by dsimp only; omega, by omega, fun j hj => absurd hj (Nat.not_lt_zero j)⟩
  ·(repeat first | exact LE.nil _ | refine LE.unk _ _ ?_ | refine LE.eq _ _ _ rfl ?_)
  intro ⟨i, a1⟩ hI ih
  obtain ⟨q0, q1, q2, q3⟩ := hI
  dsimp only at q0 q1 q2 q3 ⊢
  refine A6 (st := []) ?_
  refine br ?_ ?_ <;> intro h5_3
  ·(refine B9 (C5 (by first | rfl | assumption | (exact A9 Rep.T Rep0 (by omega))) rfl ?_))
   refine G2 (lz26 (L.getD i Rep0) a1 (by omega) (hs i (by omega))) rfl j2 ?_
   rintro y h7_5
   try dsimp only at h7_5
   refine br ?_ ?_ <;> intro h8_1
   ·first | exact ⟨-1, ⟨by omega, fun h => by omega⟩, B4 rfl rfl⟩ | exact ⟨a1, ⟨by omega, fun _ => (B1 Rep.T Rep0).2 ⟨by omega, fun j hj => q3 j (by omega)⟩⟩, B4 rfl rfl⟩
   ·refine C0 ?_
    exact N4 (ih (i + 1, y) ⟨by dsimp only; omega, by dsimp only; omega, by omega, fun j hj => by
     by_cases e : j = i
     ·subst e; exact h7_5.2 (by omega)
     ·exact q3 j (by dsimp only at hj; omega)⟩ (by dsimp only; omega)) (by (repeat first | exact LE.nil _ | refine LE.unk _ _ ?_ | refine LE.eq _ _ _ rfl ?_))
  ·first | exact ⟨-1, ⟨by omega, fun h => by omega⟩, B4 rfl rfl⟩ | exact ⟨a1, ⟨by omega, fun _ => (B1 Rep.T Rep0).2 ⟨by omega, fun j hj => q3 j (by omega)⟩⟩, B4 rfl rfl⟩
theorem lt28 (s : Rep) (hb : TBs 1048576 (Rep.T s)) : Pure En 28 [.agg (Rep.T s)] [.agg (Rep.T s)] := by
 obtain ⟨b0, b1, b2, b3⟩ := Rep.tb.1 hb
 refine Pure.of_ev (st := []) Tryz.func28 rfl kb ?_
 refine A1 ?_
 (apply est (u := .int _ _) j3; exact Q0; rfl; exact j4; exact kb; rfl)
 refine A1 ?_
 (apply est (u := .int _ _) j3; exact Q0; rfl; exact j4; exact kb; rfl)
 refine A1 ?_
 (apply est (u := .int _ _) j3; exact Q0; rfl; exact j4; exact kb; rfl)
 refine A1 ?_
 refine brB ?_ ?_ <;> intro h5_1
 ·(apply est (u := .bool _) j3; exact Q0; rfl; exact j4; exact kb; rfl)
  refine A1 ?_
  refine C1 (lt78 s.sl b0) rfl rfl rfl ?_
  (apply est (u := .sl _ _ _) j3; exact Q0; rfl; exact j4; exact kb; rfl)
  refine A1 ?_
  refine C1 (lt79 s.cs b1) rfl rfl rfl ?_
  (apply est (u := .sl _ _ _) j3; exact Q0; rfl; exact j4; exact kb; rfl)
  refine A1 ?_
  refine C1 (lt80 s.lg b2) rfl rfl rfl ?_
  (apply est (u := .sl _ _ _) j3; exact Q0; rfl; exact j4; exact kb; rfl)
  refine A1 ?_
  refine C1 (lt15 s.ch b3) rfl rfl rfl ?_
  (apply est (u := .sl _ _ _) j3; exact Q0; rfl; exact j4; exact kb; rfl)
  (apply C3 (vs := [.int _ _, .int _ _, .int _ _, .bool _, _, _, _, _]) j2; exact Q0; rfl; rfl; exact kb; rfl)
  (apply est (u := .agg [.int _ _, .int _ _, .int _ _, .bool _, _, _, _, _]) j3; exact Q0; rfl; exact j4; exact kb; rfl)
  refine C9 [] (A0 (A3 (xs := (Rep.T s).map (T.toV true)) rfl (by exact Q0) j2 kb (by simp only [Rep.T, ‹s.ac = _›] <;> rfl)) A2) ?_
  exact SnapL.cons _ _ _ _ (SnapC.agg (E1 _)) SnapL.nil
 ·(apply est (u := .bool _) j3; exact Q0; rfl; exact j4; exact kb; rfl)
  refine A1 ?_
  refine C1 (lt78 s.sl b0) rfl rfl rfl ?_
  (apply est (u := .sl _ _ _) j3; exact Q0; rfl; exact j4; exact kb; rfl)
  refine A1 ?_
  refine C1 (lt79 s.cs b1) rfl rfl rfl ?_
  (apply est (u := .sl _ _ _) j3; exact Q0; rfl; exact j4; exact kb; rfl)
  refine A1 ?_
  refine C1 (lt80 s.lg b2) rfl rfl rfl ?_
  (apply est (u := .sl _ _ _) j3; exact Q0; rfl; exact j4; exact kb; rfl)
  refine A1 ?_
  refine C1 (lt15 s.ch b3) rfl rfl rfl ?_
  (apply est (u := .sl _ _ _) j3; exact Q0; rfl; exact j4; exact kb; rfl)
  (apply C3 (vs := [.int _ _, .int _ _, .int _ _, .bool _, _, _, _, _]) j2; exact Q0; rfl; rfl; exact kb; rfl)
  (apply est (u := .agg [.int _ _, .int _ _, .int _ _, .bool _, _, _, _, _]) j3; exact Q0; rfl; exact j4; exact kb; rfl)
  refine C9 [] (A0 (A3 (xs := (Rep.T s).map (T.toV true)) rfl (by exact Q0) j2 kb (by simp only [Rep.T, ‹s.ac = _›] <;> rfl)) A2) ?_
  exact SnapL.cons _ _ _ _ (SnapC.agg (E1 _)) SnapL.nil
theorem lt95 (L : List Rep) (hb : TB 1048576 (.sl false (L.map Rep.T))) : Pure En 95 [.one (.sl false (L.map Rep.T))] [.one (.sl false (L.map Rep.T))] := by
 have hl : (L.map Rep.T).length = L.length := List.length_map ..
 obtain ⟨hm, hs⟩ := (B1 Rep.T Rep0).1 hb
 refine Pure.of_ev (st := []) Tryz.func95 rfl kb ?_
 refine emk (s' := 128) j6 kz ?_ ?_ ?_
 ·exact Q8
 ·exact Q8
 refine B3 (fun (i : Nat) => [.sl false false (L.map Rep.T), .unk, .unk, .view 0 0 (L.map Rep.T).length, .int .i64 i]) (fun (i : Nat) => hp [(0, ⟨mkG (vT Rep.T) [.int .i64 0, .int .i64 0, .int .i64 0, .bool false, .nsl, .nsl, .nsl, .nsl] L i, 8, 54⟩)]) (fun (i : Nat) => 1) (fun (i : Nat) => i ≤ L.length) (fun (i : Nat) => L.length - i) 0 ?_ ?_ ?_ ?_ ?_
 ·exact Nat.zero_le _
 ·(repeat first | exact LE.nil _ | refine LE.unk _ _ ?_ | refine LE.eq _ _ _ rfl ?_)
 ·(repeat first | exact A5 | (refine A4 ?_ ?_; (first | exact Q0 | ((simp (disch := omega) only [↓app0, ↓appC, ↓updS, ↓updN, ↓hpS, ↓hpN]); exact congrArg (fun z => some (Blk.mk z 8 54)) (by rw [E9, ← hl]; rfl)))))
 ·exact Nat.le_refl _
 intro i hI ih
 refine A6 (st := []) ?_
 refine br ?_ ?_ <;> intro h3_3
 ·(refine B9 (C5 (by first | rfl | assumption | (exact A9 Rep.T Rep0 (by omega))) rfl ?_))
  refine C1 (lt28 (L.getD i Rep0) (hs i (by omega))) rfl rfl rfl ?_
  (refine H1 (by exact Q0) ⟨rfl, B9 ?_⟩)
  (apply est j3; exact Q0; exact H2 (vT Rep.T) [.int .i64 0, .int .i64 0, .int .i64 0, .bool false, .nsl, .nsl, .nsl, .nsl] (by omega); exact j4; exact kb; rfl)
  refine C0 ?_
  exact C6 (ih (i + 1) (by omega) (by omega)) (by (repeat first | exact LE.nil _ | refine LE.unk _ _ ?_ | refine LE.eq _ _ _ rfl ?_)) (by (repeat first | exact A5 | (refine A4 ?_ ?_; ((simp (disch := omega) only [↓app0, ↓appC, ↓updS, ↓updN, ↓hpS, ↓hpN]); exact congrArg (fun z => some (Blk.mk z 8 54)) (H3 (vT Rep.T) [.int .i64 0, .int .i64 0, .int .i64 0, .bool false, .nsl, .nsl, .nsl, .nsl] Rep0 (by omega)))))) (Nat.le_refl _)
 ·obtain rfl : i = L.length := by omega
  refine C9 [0] rfl ?_
  exact SnapL.cons _ _ _ _ (.one _ _ (F2 (sz := 8) (ty := 54) (by simp) (by (simp (disch := omega) only [↓app0, ↓appC, ↓updS, ↓updN, ↓hpS, ↓hpN]); exact congrArg (fun z => some (Blk.mk z 8 54)) (F0 (vT Rep.T) [.int .i64 0, .int .i64 0, .int .i64 0, .bool false, .nsl, .nsl, .nsl, .nsl] L)) hl)) SnapL.nil
theorem le30 (s : Rep) (hb : TBs 1048576 (Rep.T s)) : Pure En 30 [.agg (Rep.T s), .agg (Rep.T s)] [.one (.bool true)] := by
 obtain ⟨b0, b1, b2, b3⟩ := Rep.tb.1 hb
 refine Pure.of_ev (st := []) Tryz.func30 rfl kb ?_
 refine A1 ?_
 refine A1 ?_
 refine br ?_ ?_ <;> intro h1_4
 ·first | exact B4 rfl rfl | contradiction | (exfalso; simp_all; done)
 ·refine A1 ?_
  refine A1 ?_
  refine br ?_ ?_ <;> intro h3_4
  ·first | exact B4 rfl rfl | contradiction | (exfalso; simp_all; done)
  ·refine A1 ?_
   refine A1 ?_
   refine br ?_ ?_ <;> intro h5_4
   ·first | exact B4 rfl rfl | contradiction | (exfalso; simp_all; done)
   ·refine A1 ?_
    refine brB ?_ ?_ <;> intro h7_1
    ·refine A1 ?_
     refine brB ?_ ?_ <;> intro h7_3
     ·refine A1 ?_
      refine A1 ?_
      refine C1 (le87 s.sl b0) rfl rfl rfl ?_
      refine A1 ?_
      refine A1 ?_
      refine C1 (le88 s.cs b1) rfl rfl rfl ?_
      refine A1 ?_
      refine A1 ?_
      refine C1 (le17 s.lg b2) rfl rfl rfl ?_
      refine A1 ?_
      refine A1 ?_
      refine C1 (le18 s.ch b3) rfl rfl rfl ?_
      first | exact B4 rfl rfl | contradiction | (exfalso; simp_all; done)
     ·first | exact B4 rfl rfl | contradiction | (exfalso; simp_all; done)
    ·refine A1 ?_
     refine brB ?_ ?_ <;> intro h7_3
     ·first | exact B4 rfl rfl | contradiction | (exfalso; simp_all; done)
     ·refine A1 ?_
      refine A1 ?_
      refine C1 (le87 s.sl b0) rfl rfl rfl ?_
      refine A1 ?_
      refine A1 ?_
      refine C1 (le88 s.cs b1) rfl rfl rfl ?_
      refine A1 ?_
      refine A1 ?_
      refine C1 (le17 s.lg b2) rfl rfl rfl ?_
      refine A1 ?_
      refine A1 ?_
      refine C1 (le18 s.ch b3) rfl rfl rfl ?_
      first | exact B4 rfl rfl | contradiction | (exfalso; simp_all; done)
theorem le101 (L : List Rep) (hb : TB 1048576 (.sl false (L.map Rep.T))) : Pure En 101 [.one (.sl false (L.map Rep.T)), .one (.sl false (L.map Rep.T))] [.one (.bool true)] := by
 have hl : (L.map Rep.T).length = L.length := List.length_map ..
 obtain ⟨hm, hs⟩ := (B1 Rep.T Rep0).1 hb
 refine Pure.of_ev (st := []) Tryz.func101 rfl kb ?_
 refine br ?_ ?_ <;> intro h1_4
 ·first | exact B4 rfl rfl | contradiction | (exfalso; simp_all; done)
 ·refine C4 (fun (i : Nat) => [.sl false false (L.map Rep.T), .sl false false (L.map Rep.T), .unk, .unk, .unk, .int .i64 i]) (fun (i : Nat) => i ≤ L.length) (fun (i : Nat) => L.length - i) 0 ?_ ?_ ?_
  ·exact Nat.zero_le _
  ·(repeat first | exact LE.nil _ | refine LE.unk _ _ ?_ | refine LE.eq _ _ _ rfl ?_)
  intro i hI ih
  refine A6 (st := []) ?_
  refine br ?_ ?_ <;> intro h4_3
  ·(refine B9 (C5 (by first | rfl | assumption | (exact A9 Rep.T Rep0 (by omega))) rfl ?_))
   (refine B9 (C5 (by first | rfl | assumption | (exact A9 Rep.T Rep0 (by omega))) rfl ?_))
   refine C1 (le30 (L.getD i Rep0) (hs i (by omega))) rfl rfl rfl ?_
   refine C0 ?_
   exact N4 (ih (i + 1) (by omega) (by omega)) (by (repeat first | exact LE.nil _ | refine LE.unk _ _ ?_ | refine LE.eq _ _ _ rfl ?_))
  ·first | exact B4 rfl rfl | contradiction | (exfalso; simp_all; done)
open Go Go.V
set_option linter.unusedVariables false
set_option linter.unusedSimpArgs false
set_option maxRecDepth 20000
set_option maxHeartbeats 4000000
structure Pc where
 to : Int
 ms : Msg
def Pc.T (s : Pc) : List V.T := .int .i64 s.to :: Msg.T s.ms ++ ([])
def Pc0 : Pc := ⟨0, Msg0⟩
def shPc : List Sh := .int .i64 :: shMsg ++ ([])
theorem shPc_inv {xs : List V.T} (h : Shs xs shPc) : ∃ s : Pc, xs = Pc.T s := by
 obtain ⟨_, _, rfl, g0, k0⟩ := B6 h; obtain ⟨a0, rfl⟩ := D2 g0
 obtain ⟨_, _, rfl, g1, k1⟩ := T9 k0; obtain ⟨a1, rfl⟩ := I9 g1
 obtain rfl := H5 k1
 exact ⟨⟨a0, a1⟩, rfl⟩
theorem Pc.tb {B : Nat} {s : Pc} : TBs B (Pc.T s) ↔ TBs B (Msg.T s.ms) := by
 simp only [Pc.T, D1, F5, E0, H4, F1, E2, true_and, and_true]
structure Grp where
 nd : Int
 fa : List Int
 rs : List Rep
 wi : List Pc
 se : List Msg
def Grp.T (s : Grp) : List V.T := .int .i64 s.nd :: .sl false (s.fa.map iT) :: .sl false (s.rs.map Rep.T) :: .sl false (s.wi.map Pc.T) :: .sl false (s.se.map Msg.T) :: []
def Grp0 : Grp := ⟨0, [], [], [], []⟩
def shGrp : List Sh := .int .i64 :: .sl shInt :: .sl shRep :: .sl shPc :: .sl shMsg :: []
theorem shGrp_inv {xs : List V.T} (h : Shs xs shGrp) : ∃ s : Grp, xs = Grp.T s := by
 obtain ⟨_, _, rfl, g0, k0⟩ := B6 h; obtain ⟨a0, rfl⟩ := D2 g0
 obtain ⟨_, _, rfl, g1, k1⟩ := B6 k0; obtain ⟨a1, rfl⟩ := G6 (f := iT) g1 (fun _ h => shInt_inv h)
 obtain ⟨_, _, rfl, g2, k2⟩ := B6 k1; obtain ⟨a2, rfl⟩ := G6 (f := Rep.T) g2 (fun _ h => shRep_inv h)
 obtain ⟨_, _, rfl, g3, k3⟩ := B6 k2; obtain ⟨a3, rfl⟩ := G6 (f := Pc.T) g3 (fun _ h => shPc_inv h)
 obtain ⟨_, _, rfl, g4, k4⟩ := B6 k3; obtain ⟨a4, rfl⟩ := G6 (f := Msg.T) g4 (fun _ h => I9 h)
 obtain rfl := H5 k4
 exact ⟨⟨a0, a1, a2, a3, a4⟩, rfl⟩
theorem Grp.tb {B : Nat} {s : Grp} : TBs B (Grp.T s) ↔ TB B (.sl false (s.fa.map iT)) ∧ TB B (.sl false (s.rs.map Rep.T)) ∧ TB B (.sl false (s.wi.map Pc.T)) ∧ TB B (.sl false (s.se.map Msg.T)) := by
 simp only [Grp.T, D1, F5, E0, H4, F1, E2, true_and, and_true]
theorem lz89 (L : List Int) (k : Int) (hk : 0 ≤ k ∧ k ≤ 1048576) (hb : TB 9223372036854775807 (.sl false (L.map iT))) : ∃ x : Int, ((-1 ≤ x ∧ x ≤ k) ∧ (0 ≤ x → TB 1048576 (.sl false (L.map iT)))) ∧ Pure En 89 [.one (.sl false (L.map iT)), .one (.int .i64 k)] [.one (.int .i64 x)] := by
 have hl : (L.map iT).length = L.length := List.length_map ..
 obtain ⟨hm, hs⟩ := (B1 iT (0 : Int)).1 hb
 refine Pure.of_evX (st := []) Tryz.func89 rfl kb ?_
 refine C0 ?_
 refine br ?_ ?_ <;> intro h2_1
 ·first | exact ⟨-1, ⟨by omega, fun h => by omega⟩, B4 rfl rfl⟩ | exact ⟨_, ⟨by omega, fun hx => (B1 iT (0 : Int)).2 ⟨by omega, fun j hj => by simp only [iT, D1, E0, F1, E2, true_and]⟩⟩, B4 rfl rfl⟩
 ·first | exact ⟨-1, ⟨by omega, fun h => by omega⟩, B4 rfl rfl⟩ | exact ⟨_, ⟨by omega, fun hx => (B1 iT (0 : Int)).2 ⟨by omega, fun j hj => by simp only [iT, D1, E0, F1, E2, true_and]⟩⟩, B4 rfl rfl⟩
theorem lt94 (L : List Int) (hb : TB 1048576 (.sl false (L.map iT))) : Pure En 94 [.one (.sl false (L.map iT))] [.one (.sl false (L.map iT))] := by
 have hl : (L.map iT).length = L.length := List.length_map ..
 obtain ⟨hm, hs⟩ := (B1 iT (0 : Int)).1 hb
 refine Pure.of_ev (st := []) Tryz.func94 rfl kb ?_
 refine emk (s' := 8) j6 kz ?_ ?_ ?_
 ·exact Q8
 ·exact Q8
 refine B3 (fun (i : Nat) => [.sl false false (L.map iT), .unk, .unk, .view 0 0 (L.map iT).length, .int .i64 i]) (fun (i : Nat) => hp [(0, ⟨mkG (vT iT) [.int .i64 0] L i, 1, 3⟩)]) (fun (i : Nat) => 1) (fun (i : Nat) => i ≤ L.length) (fun (i : Nat) => L.length - i) 0 ?_ ?_ ?_ ?_ ?_
 ·exact Nat.zero_le _
 ·(repeat first | exact LE.nil _ | refine LE.unk _ _ ?_ | refine LE.eq _ _ _ rfl ?_)
 ·(repeat first | exact A5 | (refine A4 ?_ ?_; (first | exact Q0 | ((simp (disch := omega) only [↓app0, ↓appC, ↓updS, ↓updN, ↓hpS, ↓hpN]); exact congrArg (fun z => some (Blk.mk z 1 3)) (by rw [E9, ← hl]; rfl)))))
 ·exact Nat.le_refl _
 intro i hI ih
 refine A6 (st := []) ?_
 refine br ?_ ?_ <;> intro h3_3
 ·(refine B9 (C5 (by first | rfl | assumption | (exact A9 iT (0 : Int) (by omega))) rfl ?_))
  (refine H1 (by exact Q0) ⟨rfl, B9 ?_⟩)
  (apply est j3; exact Q0; exact H2 (vT iT) [.int .i64 0] (by omega); exact j4; exact kb; rfl)
  refine C0 ?_
  exact C6 (ih (i + 1) (by omega) (by omega)) (by (repeat first | exact LE.nil _ | refine LE.unk _ _ ?_ | refine LE.eq _ _ _ rfl ?_)) (by (repeat first | exact A5 | (refine A4 ?_ ?_; ((simp (disch := omega) only [↓app0, ↓appC, ↓updS, ↓updN, ↓hpS, ↓hpN]); exact congrArg (fun z => some (Blk.mk z 1 3)) (H3 (vT iT) [.int .i64 0] (0 : Int) (by omega)))))) (Nat.le_refl _)
 ·obtain rfl : i = L.length := by omega
  refine C9 [0] rfl ?_
  exact SnapL.cons _ _ _ _ (.one _ _ (F2 (sz := 1) (ty := 3) (by simp) (by (simp (disch := omega) only [↓app0, ↓appC, ↓updS, ↓updN, ↓hpS, ↓hpN]); exact congrArg (fun z => some (Blk.mk z 1 3)) (F0 (vT iT) [.int .i64 0] L)) hl)) SnapL.nil
theorem le100 (L : List Int) (hb : TB 1048576 (.sl false (L.map iT))) : Pure En 100 [.one (.sl false (L.map iT)), .one (.sl false (L.map iT))] [.one (.bool true)] := by
 have hl : (L.map iT).length = L.length := List.length_map ..
 obtain ⟨hm, hs⟩ := (B1 iT (0 : Int)).1 hb
 refine Pure.of_ev (st := []) Tryz.func100 rfl kb ?_
 refine br ?_ ?_ <;> intro h1_4
 ·first | exact B4 rfl rfl | contradiction | (exfalso; simp_all; done)
 ·refine C4 (fun (i : Nat) => [.sl false false (L.map iT), .sl false false (L.map iT), .unk, .unk, .unk, .int .i64 i]) (fun (i : Nat) => i ≤ L.length) (fun (i : Nat) => L.length - i) 0 ?_ ?_ ?_
  ·exact Nat.zero_le _
  ·(repeat first | exact LE.nil _ | refine LE.unk _ _ ?_ | refine LE.eq _ _ _ rfl ?_)
  intro i hI ih
  refine A6 (st := []) ?_
  refine br ?_ ?_ <;> intro h4_3
  ·(refine B9 (C5 (by first | rfl | assumption | (exact A9 iT (0 : Int) (by omega))) rfl ?_))
   (refine B9 (C5 (by first | rfl | assumption | (exact A9 iT (0 : Int) (by omega))) rfl ?_))
   refine br ?_ ?_ <;> intro h6_8
   ·first | exact B4 rfl rfl | contradiction | (exfalso; simp_all; done)
   ·refine C0 ?_
    exact N4 (ih (i + 1) (by omega) (by omega)) (by (repeat first | exact LE.nil _ | refine LE.unk _ _ ?_ | refine LE.eq _ _ _ rfl ?_))
  ·first | exact B4 rfl rfl | contradiction | (exfalso; simp_all; done)
theorem lz164 (s : Pc) (k : Int) (hk : 0 ≤ k ∧ k ≤ 1048576) (hb : TBs 9223372036854775807 (Pc.T s)) : ∃ x : Int, ((-1 ≤ x ∧ x ≤ k) ∧ (0 ≤ x → TBs 1048576 (Pc.T s))) ∧ Pure En 164 [.agg (Pc.T s), .one (.int .i64 k)] [.one (.int .i64 x)] := by
 have b0 := Pc.tb.1 hb
 refine Pure.of_evX (st := []) Tryz.func164 rfl kb ?_
 (apply C3 (vs := [.int _ _, .int _ _, .int _ _, .int _ _, .str _, .str _, .str _]) j2; exact Q0; rfl; rfl; exact kb; rfl)
 refine G2 (lz56 s.ms (k) (by omega) b0) rfl j2 ?_
 rintro y0 h1_3
 try dsimp only at h1_3
 refine br ?_ ?_ <;> intro h2_1
 ·first | exact ⟨-1, ⟨by omega, fun h => by omega⟩, B4 rfl rfl⟩ | exact ⟨_, ⟨by omega, fun hx => Pc.tb.2 (h1_3.2 (by omega))⟩, B4 rfl rfl⟩
 ·first | exact ⟨-1, ⟨by omega, fun h => by omega⟩, B4 rfl rfl⟩ | exact ⟨_, ⟨by omega, fun hx => Pc.tb.2 (h1_3.2 (by omega))⟩, B4 rfl rfl⟩
theorem lz91 (L : List Pc) (k : Int) (hk : 0 ≤ k ∧ k ≤ 1048576) (hb : TB 9223372036854775807 (.sl false (L.map Pc.T))) : ∃ x : Int, ((-1 ≤ x ∧ x ≤ k) ∧ (0 ≤ x → TB 1048576 (.sl false (L.map Pc.T)))) ∧ Pure En 91 [.one (.sl false (L.map Pc.T)), .one (.int .i64 k)] [.one (.int .i64 x)] := by
 have hl : (L.map Pc.T).length = L.length := List.length_map ..
 obtain ⟨hm, hs⟩ := (B1 Pc.T Pc0).1 hb
 refine Pure.of_evX (st := []) Tryz.func91 rfl kb ?_
 refine C0 ?_
 refine br ?_ ?_ <;> intro h2_1
 ·first | exact ⟨-1, ⟨by omega, fun h => by omega⟩, B4 rfl rfl⟩ | exact ⟨a1, ⟨by omega, fun _ => (B1 Pc.T Pc0).2 ⟨by omega, fun j hj => q3 j (by omega)⟩⟩, B4 rfl rfl⟩
 ·refine C4 (fun (a : Nat × Int) => [.sl false false (L.map Pc.T), .int .i64 a.2, .unk, .unk, .unk, .int .i64 a.1]) (fun (a : Nat × Int) => a.1 ≤ L.length ∧ (0 ≤ a.2 ∧ a.2 ≤ k) ∧ (L.length : Int) ≤ k ∧ ∀ j, j < a.1 → TBs 1048576 (Pc.T (L.getD j Pc0))) (fun (a : Nat × Int) => L.length - a.1) (0, k - (L.map Pc.T).length) ?_ ?_ ?_
  ·exact ⟨Nat.zero_le _, by dsimp only; omega, by omega, fun j hj => absurd hj (Nat.not_lt_zero j)⟩
  ·(repeat first | exact LE.nil _ | refine LE.unk _ _ ?_ | refine LE.eq _ _ _ rfl ?_)
  intro ⟨i, a1⟩ hI ih
  obtain ⟨q0, q1, q2, q3⟩ := hI
  dsimp only at q0 q1 q2 q3 ⊢
  refine A6 (st := []) ?_
  refine br ?_ ?_ <;> intro h5_3
  ·(refine B9 (C5 (by first | rfl | assumption | (exact A9 Pc.T Pc0 (by omega))) rfl ?_))
   refine G2 (lz164 (L.getD i Pc0) a1 (by omega) (hs i (by omega))) rfl j2 ?_
   rintro y h7_5
   try dsimp only at h7_5
   refine br ?_ ?_ <;> intro h8_1
   ·first | exact ⟨-1, ⟨by omega, fun h => by omega⟩, B4 rfl rfl⟩ | exact ⟨a1, ⟨by omega, fun _ => (B1 Pc.T Pc0).2 ⟨by omega, fun j hj => q3 j (by omega)⟩⟩, B4 rfl rfl⟩
   ·refine C0 ?_
    exact N4 (ih (i + 1, y) ⟨by dsimp only; omega, by dsimp only; omega, by omega, fun j hj => by
     by_cases e : j = i
     ·subst e; exact h7_5.2 (by omega)
     ·exact q3 j (by dsimp only at hj; omega)⟩ (by dsimp only; omega)) (by (repeat first | exact LE.nil _ | refine LE.unk _ _ ?_ | refine LE.eq _ _ _ rfl ?_))
  ·first | exact ⟨-1, ⟨by omega, fun h => by omega⟩, B4 rfl rfl⟩ | exact ⟨a1, ⟨by omega, fun _ => (B1 Pc.T Pc0).2 ⟨by omega, fun j hj => q3 j (by omega)⟩⟩, B4 rfl rfl⟩
theorem lt168 (s : Pc) (hb : TBs 1048576 (Pc.T s)) : Pure En 168 [.agg (Pc.T s)] [.agg (Pc.T s)] := by
 have b0 := Pc.tb.1 hb
 refine Pure.of_ev (st := []) Tryz.func168 rfl kb ?_
 refine A1 ?_
 (apply est (u := .int _ _) j3; exact Q0; rfl; exact j4; exact kb; rfl)
 (apply C3 (vs := [.int _ _, .int _ _, .int _ _, .int _ _, .str _, .str _, .str _]) j2; exact Q0; rfl; rfl; exact kb; rfl)
 refine C1 (lt61 s.ms b0) rfl rfl rfl ?_
 (apply est (u := .agg [.int _ _, .int _ _, .int _ _, .int _ _, .str _, .str _, .str _]) j3; exact Q0; rfl; exact j4; exact kb; rfl)
 (apply C3 (vs := [.int _ _, .int _ _, .int _ _, .int _ _, .int _ _, .str _, .str _, .str _]) j2; exact Q0; rfl; rfl; exact kb; rfl)
 (apply est (u := .agg [.int _ _, .int _ _, .int _ _, .int _ _, .int _ _, .str _, .str _, .str _]) j3; exact Q0; rfl; exact j4; exact kb; rfl)
 refine C9 [] (A0 (A3 (xs := (Pc.T s).map (T.toV true)) rfl (by exact Q0) j2 kb rfl) A2) ?_
 exact SnapL.cons _ _ _ _ (SnapC.agg (E1 _)) SnapL.nil
theorem lt96 (L : List Pc) (hb : TB 1048576 (.sl false (L.map Pc.T))) : Pure En 96 [.one (.sl false (L.map Pc.T))] [.one (.sl false (L.map Pc.T))] := by
 have hl : (L.map Pc.T).length = L.length := List.length_map ..
 obtain ⟨hm, hs⟩ := (B1 Pc.T Pc0).1 hb
 refine Pure.of_ev (st := []) Tryz.func96 rfl kb ?_
 refine emk (s' := 88) j6 kz ?_ ?_ ?_
 ·exact Q8
 ·exact Q8
 refine B3 (fun (i : Nat) => [.sl false false (L.map Pc.T), .unk, .unk, .view 0 0 (L.map Pc.T).length, .int .i64 i]) (fun (i : Nat) => hp [(0, ⟨mkG (vT Pc.T) [.int .i64 0, .int .i64 0, .int .i64 0, .int .i64 0, .int .i64 0, .str ⟨#[]⟩, .str ⟨#[]⟩, .str ⟨#[]⟩] L i, 8, 130⟩)]) (fun (i : Nat) => 1) (fun (i : Nat) => i ≤ L.length) (fun (i : Nat) => L.length - i) 0 ?_ ?_ ?_ ?_ ?_
 ·exact Nat.zero_le _
 ·(repeat first | exact LE.nil _ | refine LE.unk _ _ ?_ | refine LE.eq _ _ _ rfl ?_)
 ·(repeat first | exact A5 | (refine A4 ?_ ?_; (first | exact Q0 | ((simp (disch := omega) only [↓app0, ↓appC, ↓updS, ↓updN, ↓hpS, ↓hpN]); exact congrArg (fun z => some (Blk.mk z 8 130)) (by rw [E9, ← hl]; rfl)))))
 ·exact Nat.le_refl _
 intro i hI ih
 refine A6 (st := []) ?_
 refine br ?_ ?_ <;> intro h3_3
 ·(refine B9 (C5 (by first | rfl | assumption | (exact A9 Pc.T Pc0 (by omega))) rfl ?_))
  refine C1 (lt168 (L.getD i Pc0) (hs i (by omega))) rfl rfl rfl ?_
  (refine H1 (by exact Q0) ⟨rfl, B9 ?_⟩)
  (apply est j3; exact Q0; exact H2 (vT Pc.T) [.int .i64 0, .int .i64 0, .int .i64 0, .int .i64 0, .int .i64 0, .str ⟨#[]⟩, .str ⟨#[]⟩, .str ⟨#[]⟩] (by omega); exact j4; exact kb; rfl)
  refine C0 ?_
  exact C6 (ih (i + 1) (by omega) (by omega)) (by (repeat first | exact LE.nil _ | refine LE.unk _ _ ?_ | refine LE.eq _ _ _ rfl ?_)) (by (repeat first | exact A5 | (refine A4 ?_ ?_; ((simp (disch := omega) only [↓app0, ↓appC, ↓updS, ↓updN, ↓hpS, ↓hpN]); exact congrArg (fun z => some (Blk.mk z 8 130)) (H3 (vT Pc.T) [.int .i64 0, .int .i64 0, .int .i64 0, .int .i64 0, .int .i64 0, .str ⟨#[]⟩, .str ⟨#[]⟩, .str ⟨#[]⟩] Pc0 (by omega)))))) (Nat.le_refl _)
 ·obtain rfl : i = L.length := by omega
  refine C9 [0] rfl ?_
  exact SnapL.cons _ _ _ _ (.one _ _ (F2 (sz := 8) (ty := 130) (by simp) (by (simp (disch := omega) only [↓app0, ↓appC, ↓updS, ↓updN, ↓hpS, ↓hpN]); exact congrArg (fun z => some (Blk.mk z 8 130)) (F0 (vT Pc.T) [.int .i64 0, .int .i64 0, .int .i64 0, .int .i64 0, .int .i64 0, .str ⟨#[]⟩, .str ⟨#[]⟩, .str ⟨#[]⟩] L)) hl)) SnapL.nil
theorem le171 (s : Pc) (hb : TBs 1048576 (Pc.T s)) : Pure En 171 [.agg (Pc.T s), .agg (Pc.T s)] [.one (.bool true)] := by
 have b0 := Pc.tb.1 hb
 refine Pure.of_ev (st := []) Tryz.func171 rfl kb ?_
 refine A1 ?_
 refine A1 ?_
 refine br ?_ ?_ <;> intro h1_4
 ·first | exact B4 rfl rfl | contradiction | (exfalso; simp_all; done)
 ·(apply C3 (vs := [.int _ _, .int _ _, .int _ _, .int _ _, .str _, .str _, .str _]) j2; exact Q0; rfl; rfl; exact kb; rfl)
  (apply C3 (vs := [.int _ _, .int _ _, .int _ _, .int _ _, .str _, .str _, .str _]) j2; exact Q0; rfl; rfl; exact kb; rfl)
  refine C1 (le66 s.ms b0) rfl rfl rfl ?_
  first | exact B4 rfl rfl | contradiction | (exfalso; simp_all; done)
theorem le102 (L : List Pc) (hb : TB 1048576 (.sl false (L.map Pc.T))) : Pure En 102 [.one (.sl false (L.map Pc.T)), .one (.sl false (L.map Pc.T))] [.one (.bool true)] := by
 have hl : (L.map Pc.T).length = L.length := List.length_map ..
 obtain ⟨hm, hs⟩ := (B1 Pc.T Pc0).1 hb
 refine Pure.of_ev (st := []) Tryz.func102 rfl kb ?_
 refine br ?_ ?_ <;> intro h1_4
 ·first | exact B4 rfl rfl | contradiction | (exfalso; simp_all; done)
 ·refine C4 (fun (i : Nat) => [.sl false false (L.map Pc.T), .sl false false (L.map Pc.T), .unk, .unk, .unk, .int .i64 i]) (fun (i : Nat) => i ≤ L.length) (fun (i : Nat) => L.length - i) 0 ?_ ?_ ?_
  ·exact Nat.zero_le _
  ·(repeat first | exact LE.nil _ | refine LE.unk _ _ ?_ | refine LE.eq _ _ _ rfl ?_)
  intro i hI ih
  refine A6 (st := []) ?_
  refine br ?_ ?_ <;> intro h4_3
  ·(refine B9 (C5 (by first | rfl | assumption | (exact A9 Pc.T Pc0 (by omega))) rfl ?_))
   (refine B9 (C5 (by first | rfl | assumption | (exact A9 Pc.T Pc0 (by omega))) rfl ?_))
   refine C1 (le171 (L.getD i Pc0) (hs i (by omega))) rfl rfl rfl ?_
   refine C0 ?_
   exact N4 (ih (i + 1) (by omega) (by omega)) (by (repeat first | exact LE.nil _ | refine LE.unk _ _ ?_ | refine LE.eq _ _ _ rfl ?_))
  ·first | exact B4 rfl rfl | contradiction | (exfalso; simp_all; done)
theorem lz31 (s : Grp) (k : Int) (hk : 0 ≤ k ∧ k ≤ 1048576) (hb : TBs 9223372036854775807 (Grp.T s)) : ∃ x : Int, ((-1 ≤ x ∧ x ≤ k) ∧ (0 ≤ x → TBs 1048576 (Grp.T s))) ∧ Pure En 31 [.agg (Grp.T s), .one (.int .i64 k)] [.one (.int .i64 x)] := by
 obtain ⟨b0, b1, b2, b3⟩ := Grp.tb.1 hb
 refine Pure.of_evX (st := []) Tryz.func31 rfl kb ?_
 refine A1 ?_
 refine G2 (lz89 s.fa (k) (by omega) b0) rfl j2 ?_
 rintro y0 h1_3
 try dsimp only at h1_3
 refine br ?_ ?_ <;> intro h2_1
 ·first | exact ⟨-1, ⟨by omega, fun h => by omega⟩, B4 rfl rfl⟩ | exact ⟨_, ⟨by omega, fun hx => Grp.tb.2 ⟨h1_3.2 (by omega), h4_3.2 (by omega), h7_3.2 (by omega), h10_3.2 (by omega)⟩⟩, B4 rfl rfl⟩
 ·refine A1 ?_
  refine G2 (lz90 s.rs (y0) (by omega) b1) rfl j2 ?_
  rintro y1 h4_3
  try dsimp only at h4_3
  refine br ?_ ?_ <;> intro h5_1
  ·first | exact ⟨-1, ⟨by omega, fun h => by omega⟩, B4 rfl rfl⟩ | exact ⟨_, ⟨by omega, fun hx => Grp.tb.2 ⟨h1_3.2 (by omega), h4_3.2 (by omega), h7_3.2 (by omega), h10_3.2 (by omega)⟩⟩, B4 rfl rfl⟩
  ·refine A1 ?_
   refine G2 (lz91 s.wi (y1) (by omega) b2) rfl j2 ?_
   rintro y2 h7_3
   try dsimp only at h7_3
   refine br ?_ ?_ <;> intro h8_1
   ·first | exact ⟨-1, ⟨by omega, fun h => by omega⟩, B4 rfl rfl⟩ | exact ⟨_, ⟨by omega, fun hx => Grp.tb.2 ⟨h1_3.2 (by omega), h4_3.2 (by omega), h7_3.2 (by omega), h10_3.2 (by omega)⟩⟩, B4 rfl rfl⟩
   ·refine A1 ?_
    refine G2 (lz13 s.se (y2) (by omega) b3) rfl j2 ?_
    rintro y3 h10_3
    try dsimp only at h10_3
    refine br ?_ ?_ <;> intro h11_1
    ·first | exact ⟨-1, ⟨by omega, fun h => by omega⟩, B4 rfl rfl⟩ | exact ⟨_, ⟨by omega, fun hx => Grp.tb.2 ⟨h1_3.2 (by omega), h4_3.2 (by omega), h7_3.2 (by omega), h10_3.2 (by omega)⟩⟩, B4 rfl rfl⟩
    ·first | exact ⟨-1, ⟨by omega, fun h => by omega⟩, B4 rfl rfl⟩ | exact ⟨_, ⟨by omega, fun hx => Grp.tb.2 ⟨h1_3.2 (by omega), h4_3.2 (by omega), h7_3.2 (by omega), h10_3.2 (by omega)⟩⟩, B4 rfl rfl⟩
theorem lt33 (s : Grp) (hb : TBs 1048576 (Grp.T s)) : Pure En 33 [.agg (Grp.T s)] [.agg (Grp.T s)] := by
 obtain ⟨b0, b1, b2, b3⟩ := Grp.tb.1 hb
 refine Pure.of_ev (st := []) Tryz.func33 rfl kb ?_
 refine A1 ?_
 (apply est (u := .int _ _) j3; exact Q0; rfl; exact j4; exact kb; rfl)
 refine A1 ?_
 refine C1 (lt94 s.fa b0) rfl rfl rfl ?_
 (apply est (u := .sl _ _ _) j3; exact Q0; rfl; exact j4; exact kb; rfl)
 refine A1 ?_
 refine C1 (lt95 s.rs b1) rfl rfl rfl ?_
 (apply est (u := .sl _ _ _) j3; exact Q0; rfl; exact j4; exact kb; rfl)
 refine A1 ?_
 refine C1 (lt96 s.wi b2) rfl rfl rfl ?_
 (apply est (u := .sl _ _ _) j3; exact Q0; rfl; exact j4; exact kb; rfl)
 refine A1 ?_
 refine C1 (lt15 s.se b3) rfl rfl rfl ?_
 (apply est (u := .sl _ _ _) j3; exact Q0; rfl; exact j4; exact kb; rfl)
 (apply C3 (vs := [.int _ _, _, _, _, _]) j2; exact Q0; rfl; rfl; exact kb; rfl)
 (apply est (u := .agg [.int _ _, _, _, _, _]) j3; exact Q0; rfl; exact j4; exact kb; rfl)
 refine C9 [] (A0 (A3 (xs := (Grp.T s).map (T.toV true)) rfl (by exact Q0) j2 kb rfl) A2) ?_
 exact SnapL.cons _ _ _ _ (SnapC.agg (E1 _)) SnapL.nil
theorem le35 (s : Grp) (hb : TBs 1048576 (Grp.T s)) : Pure En 35 [.agg (Grp.T s), .agg (Grp.T s)] [.one (.bool true)] := by
 obtain ⟨b0, b1, b2, b3⟩ := Grp.tb.1 hb
 refine Pure.of_ev (st := []) Tryz.func35 rfl kb ?_
 refine A1 ?_
 refine A1 ?_
 refine br ?_ ?_ <;> intro h1_4
 ·first | exact B4 rfl rfl | contradiction | (exfalso; simp_all; done)
 ·refine A1 ?_
  refine A1 ?_
  refine C1 (le100 s.fa b0) rfl rfl rfl ?_
  refine A1 ?_
  refine A1 ?_
  refine C1 (le101 s.rs b1) rfl rfl rfl ?_
  refine A1 ?_
  refine A1 ?_
  refine C1 (le102 s.wi b2) rfl rfl rfl ?_
  refine A1 ?_
  refine A1 ?_
  refine C1 (le18 s.se b3) rfl rfl rfl ?_
  first | exact B4 rfl rfl | contradiction | (exfalso; simp_all; done)
end Go.Proofs.YteifdelnahccjaaGreatDoor
