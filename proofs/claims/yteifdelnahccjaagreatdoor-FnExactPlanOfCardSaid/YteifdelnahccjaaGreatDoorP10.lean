import Derived.Test.YteifdelnahccjaaGreatDoorP9
namespace Go.Proofs.YteifdelnahccjaaGreatDoor
open Go.V
set_option linter.unusedVariables false
set_option linter.unusedSimpArgs false
set_option maxRecDepth 20000
set_option maxHeartbeats 4000000
structure XS where
 i : Nat
 b : Nat
 m : Nat
 g : Heap
structure XI (n : Int) (m : Msg) (l : List ByteArray) (a : XS) : Prop where
 il : a.i ≤ l.length
 g0 : a.g 0 = some ⟨[m.V], 7, 37⟩
 out : a.g a.b = some ⟨(vcL l a.i).map Ct.V, 2, 44⟩
 bm : 1 ≤ a.b ∧ a.b < a.m
 vc : VC n m.vw l a.i (vcL l a.i)
theorem r77 (n : Int) (hn : nodes n) (m : Msg) : Pure En 77 [.one (.int .i64 n), .agg m.T] [.one (.sl false ((vcO n m).map (Ct.T false))), .one (.bool (decide (okV n m)))] := by
 refine Pure.of_ev (st := [9]) Tryz.func77 rfl kb ?_
 refine A4 ?_ (by exact Q0) (by exact K6)
 refine br ?_ ?_ <;> intro h1_2
 ·refine D3 (es := []) j4 kz kb rfl rfl ?_
  have hno : ¬ okV n m := by
   rintro ⟨q0, out, q1, q2, q3, _⟩
   first
   | omega
   | exact h1_6 q3
  rw [show vcO n m = [] from if_neg hno, decide_eq_false hno]
  refine C1 [1] (A0 rfl (A0 rfl A1)) ?_
  exact (SnapL.cons _ _ _ _ (.one _ _ (.weak _ _ (A2 (b := ⟨[], 2, 44⟩) [] (List.mem_singleton.2 rfl) (by exact Q0) rfl rfl))) (SnapL.cons _ _ _ _ (.one _ _ (.bool _)) SnapL.nil))
 ·(apply C2 (vs := [.int _ _, .int _ _, .int _ _, .int _ _, .str _, .str _, .str _]) j2; exact Q0; exact K6; rfl; exact kb; rfl)
  refine B2 (r93 n m) rfl j2 ?_ ?_ <;> intro h1_6
  ·refine A4 ?_ (by exact Q0) (by exact K6)
   refine br ?_ ?_ <;> intro h1_12
   ·refine D3 (es := []) j4 kz kb rfl rfl ?_
    have hno : ¬ okV n m := by
     rintro ⟨q0, out, q1, q2, q3, _⟩
     first
     | omega
     | exact h1_6 q3
    rw [show vcO n m = [] from if_neg hno, decide_eq_false hno]
    refine C1 [1] (A0 rfl (A0 rfl A1)) ?_
    exact (SnapL.cons _ _ _ _ (.one _ _ (.weak _ _ (A2 (b := ⟨[], 2, 44⟩) [] (List.mem_singleton.2 rfl) (by exact Q0) rfl rfl))) (SnapL.cons _ _ _ _ (.one _ _ (.bool _)) SnapL.nil))
   ·have hsz : m.bd.size ≤ 1000000 := by have := h1_6.1.2.2.2.2.1; omega
    refine A4 ?_ (by exact Q0) (by exact K6)
    refine B7 (r154 m.bd hsz) rfl rfl rfl ?_
    refine brB ?_ ?_ <;> intro h3_5
    ·refine br ?_ ?_ <;> intro h4_5
     ·refine D3 (es := []) j4 kz kb rfl rfl ?_
      have hno : ¬ okV n m := by
       rintro ⟨_, out, _, _, _, l, e, h8, _⟩
       have el : lsO m.bd = l := by unfold lsO; rw [e]
       first
       | (rw [← el] at h8; rw [List.length_map] at h4_5; omega)
       | (rw [e] at h3_5; cases h3_5)
      rw [show vcO n m = [] from if_neg hno, decide_eq_false hno]
      refine C1 [1] (A0 rfl (A0 rfl A1)) ?_
      exact (SnapL.cons _ _ _ _ (.one _ _ (.weak _ _ (A2 (b := ⟨[], 2, 44⟩) [] (List.mem_singleton.2 rfl) (by exact Q0) rfl rfl))) (SnapL.cons _ _ _ _ (.one _ _ (.bool _)) SnapL.nil))
     ·have hls := H2 h3_5
      have hl : ((lsO m.bd).map tT).length = (lsO m.bd).length := List.length_map ..
      refine D3 (es := []) j4 kz kb rfl rfl ?_
      refine wlG fun g0 hg0 => ?_
      refine A7 (fun (a : XS) => [.int .i64 n, .unk, .unk, .ptr 0 0 0, .unk, .unk, .sl true false ((lsO m.bd).map tT), .unk, .view a.b 0 a.i, .int .i64 a.i]) (fun (a : XS) => a.g) (fun (a : XS) => a.m) (fun (a : XS) => XI n m (lsO m.bd) a) (fun (a : XS) => (lsO m.bd).length - a.i) ⟨0, 1, 2, g0⟩ ?_ ?_ ?_ ?_ ?_
      ·refine ⟨Nat.zero_le _, ?_, ?_, ⟨by dsimp only; omega, by dsimp only; omega⟩, .nil⟩
       ·dsimp only; rw [hg0]; exact Q0
       ·dsimp only; rw [hg0]; exact Q0
      ·(repeat first | exact LE.nil _ | refine LE.unk _ _ ?_ | refine LE.eq _ _ _ rfl ?_)
      ·exact LessH.refl _
      ·exact Nat.le_refl _
      intro ⟨i, b, m1, g⟩ hI ih
      have q0 := hI.il
      have hg0 := hI.g0
      have hgb := hI.out
      have hbm := hI.bm
      unfold Msg.V at hg0
      dsimp only at q0 hg0 hgb hbm ⊢
      have hrl := vcL_len (lsO m.bd) i
      refine A6 (st := [9]) ?_
      refine br ?_ ?_ <;> intro h8_3
      ·(refine A5 (D5 (by first | rfl | assumption | exact Q26) rfl ?_))
       refine B7 (r155 ((lsO m.bd).getD i ⟨#[]⟩) (by have := lsC_short hls _ (H1 (i := i) (by omega)); omega)) rfl rfl rfl ?_
       refine brB ?_ ?_ <;> intro h10_7
       ·(apply est (u := .agg [.str _, _]) j3; exact Q0; exact K6; exact j4; exact kb; rfl)
        (apply C2 (vs := [.str _, _]) j2; exact Q0; exact K6; rfl; exact kb; rfl)
        refine B2 (r76 n hn (ctX ((lsO m.bd).getD i ⟨#[]⟩)) false) rfl j2 ?_ ?_ <;> intro h11_5
        ·refine A4 ?_ (by exact Q0) (by exact K6)
         (refine A5 (D5 (by first | rfl | assumption | exact Q26) rfl ?_))
         refine A4 ?_ (by exact Q0) (by exact K6)
         refine br ?_ ?_ <;> intro h11_16
         ·refine D3 (es := []) j4 kz kb rfl rfl ?_
          have hno : ¬ okV n m := G7 hls hI.vc (i := i) (by omega) (by
           rintro c ⟨e1, e2, e3, e4⟩
           have ec : (ctX ((lsO m.bd).getD i ⟨#[]⟩)) = c := by unfold ctX; rw [e1]
           unfold Ct.vw at e3
           first
           | (rw [e1] at h10_7; cases h10_7; done)
           | exact h11_5 (by rw [ec]; exact e2)
           | (rw [ec] at h11_16; omega)
           | (have q := e4 (fun e => by rw [e] at hrl; simp at hrl; omega); (try dsimp only at q); rw [hrl] at q; unfold Ct.sq at q; rw [ec] at h11_36; omega))
          rw [show vcO n m = [] from if_neg hno, decide_eq_false hno]
          refine C1 [m1 + 1] (A0 rfl (A0 rfl A1)) ?_
          exact (SnapL.cons _ _ _ _ (.one _ _ (.weak _ _ (A2 (b := ⟨[], 2, 44⟩) [] (List.mem_singleton.2 rfl) (by exact Q0) rfl rfl))) (SnapL.cons _ _ _ _ (.one _ _ (.bool _)) SnapL.nil))
         ·refine br ?_ ?_ <;> intro h11_20
          ·refine A5 ?_
           (refine C8 (by exact Q0) ⟨rfl, A5 ?_⟩)
           refine A4 ?_ (by exact Q0) (by exact K6)
           (refine A5 (D5 (by first | rfl | assumption | exact Q26) rfl ?_))
           refine A4 ?_ (by exact Q0) (by exact K6)
           (refine A5 (D5 (by first | rfl | assumption | exact Q26) rfl ?_))
           refine br ?_ ?_ <;> intro h11_36
           ·refine D3 (es := []) j4 kz kb rfl rfl ?_
            have hno : ¬ okV n m := G7 hls hI.vc (i := i) (by omega) (by
             rintro c ⟨e1, e2, e3, e4⟩
             have ec : (ctX ((lsO m.bd).getD i ⟨#[]⟩)) = c := by unfold ctX; rw [e1]
             unfold Ct.vw at e3
             first
             | (rw [e1] at h10_7; cases h10_7; done)
             | exact h11_5 (by rw [ec]; exact e2)
             | (rw [ec] at h11_16; omega)
             | (have q := e4 (fun e => by rw [e] at hrl; simp at hrl; omega); (try dsimp only at q); rw [hrl] at q; unfold Ct.sq at q; rw [ec] at h11_36; omega))
            rw [show vcO n m = [] from if_neg hno, decide_eq_false hno]
            refine C1 [m1 + 1] (A0 rfl (A0 rfl A1)) ?_
            exact (SnapL.cons _ _ _ _ (.one _ _ (.weak _ _ (A2 (b := ⟨[], 2, 44⟩) [] (List.mem_singleton.2 rfl) (by exact Q0) rfl rfl))) (SnapL.cons _ _ _ _ (.one _ _ (.bool _)) SnapL.nil))
           ·(apply C2 (vs := [.str _, _]) j2; exact Q0; exact K6; rfl; exact kb; rfl)
            refine D3 (es := [[.str _, _]]) j4 kz kb rfl rfl ?_
            (apply eap (s' := 40) (es := [[.str _, _]]) rfl rfl; exact Q0; exact j2; exact U4; exact j2; exact kz; exact Q7; exact Q3; exact Q2; exact Q2)
            refine F1 fun G hG => ?_
            refine A5 ?_
            have hvc : vcT mk bare rdM dgB n m.vw (vcL (lsO m.bd) i) ((lsO m.bd).getD i ⟨#[]⟩) (ctX ((lsO m.bd).getD i ⟨#[]⟩)) := ⟨N8 h10_7, h11_5, by unfold Ct.vw; omega, fun hne => by rw [hrl]; have hp : 0 < i := Nat.pos_of_ne_zero (fun e => hne (by rw [← List.length_eq_zero_iff, hrl, e])); unfold Ct.sq; omega⟩
            refine C6 (ih ⟨i + 1, m1 + 1 + 1, m1 + 1 + 1 + 1, G⟩ ⟨by dsimp only; omega, ?_, ?_, ⟨by dsimp only; omega, by dsimp only; omega⟩, Vc.more i _ _ hI.vc (by omega) hvc⟩ (by dsimp only; omega)) (by (repeat first | exact LE.nil _ | refine LE.unk _ _ ?_ | refine LE.eq _ _ _ rfl ?_)) (LessH.refl _) (Nat.le_refl _)
            ·dsimp only; rw [hG]; exact Q0
            ·dsimp only; rw [hG]; show _ = some (Blk.mk ((vcL (lsO m.bd) i ++ [_]).map Ct.V) 2 44); rw [List.map_append]; exact Q0
          ·(apply C2 (vs := [.str _, _]) j2; exact Q0; exact K6; rfl; exact kb; rfl)
           refine D3 (es := [[.str _, _]]) j4 kz kb rfl rfl ?_
           (apply eap (s' := 40) (es := [[.str _, _]]) rfl rfl; exact Q0; exact j2; exact U4; exact j2; exact kz; exact Q7; exact Q3; exact Q2; exact Q2)
           refine F1 fun G hG => ?_
           refine A5 ?_
           have hvc : vcT mk bare rdM dgB n m.vw (vcL (lsO m.bd) i) ((lsO m.bd).getD i ⟨#[]⟩) (ctX ((lsO m.bd).getD i ⟨#[]⟩)) := ⟨N8 h10_7, h11_5, by unfold Ct.vw; omega, fun hne => by rw [hrl]; have hp : 0 < i := Nat.pos_of_ne_zero (fun e => hne (by rw [← List.length_eq_zero_iff, hrl, e])); unfold Ct.sq; omega⟩
           refine C6 (ih ⟨i + 1, m1 + 1 + 1, m1 + 1 + 1 + 1, G⟩ ⟨by dsimp only; omega, ?_, ?_, ⟨by dsimp only; omega, by dsimp only; omega⟩, Vc.more i _ _ hI.vc (by omega) hvc⟩ (by dsimp only; omega)) (by (repeat first | exact LE.nil _ | refine LE.unk _ _ ?_ | refine LE.eq _ _ _ rfl ?_)) (LessH.refl _) (Nat.le_refl _)
           ·dsimp only; rw [hG]; exact Q0
           ·dsimp only; rw [hG]; show _ = some (Blk.mk ((vcL (lsO m.bd) i ++ [_]).map Ct.V) 2 44); rw [List.map_append]; exact Q0
        ·refine D3 (es := []) j4 kz kb rfl rfl ?_
         have hno : ¬ okV n m := G7 hls hI.vc (i := i) (by omega) (by
          rintro c ⟨e1, e2, e3, e4⟩
          have ec : (ctX ((lsO m.bd).getD i ⟨#[]⟩)) = c := by unfold ctX; rw [e1]
          unfold Ct.vw at e3
          first
          | (rw [e1] at h10_7; cases h10_7; done)
          | exact h11_5 (by rw [ec]; exact e2)
          | (rw [ec] at h11_16; omega)
          | (have q := e4 (fun e => by rw [e] at hrl; simp at hrl; omega); (try dsimp only at q); rw [hrl] at q; unfold Ct.sq at q; rw [ec] at h11_36; omega))
         rw [show vcO n m = [] from if_neg hno, decide_eq_false hno]
         refine C1 [m1 + 1] (A0 rfl (A0 rfl A1)) ?_
         exact (SnapL.cons _ _ _ _ (.one _ _ (.weak _ _ (A2 (b := ⟨[], 2, 44⟩) [] (List.mem_singleton.2 rfl) (by exact Q0) rfl rfl))) (SnapL.cons _ _ _ _ (.one _ _ (.bool _)) SnapL.nil))
       ·(apply est (u := .agg [.str _, _]) j3; exact Q0; exact K6; exact j4; exact kb; rfl)
        refine D3 (es := []) j4 kz kb rfl rfl ?_
        have hno : ¬ okV n m := G7 hls hI.vc (i := i) (by omega) (by
         rintro c ⟨e1, e2, e3, e4⟩
         have ec : (ctX ((lsO m.bd).getD i ⟨#[]⟩)) = c := by unfold ctX; rw [e1]
         unfold Ct.vw at e3
         first
         | (rw [e1] at h10_7; cases h10_7; done)
         | exact h11_5 (by rw [ec]; exact e2)
         | (rw [ec] at h11_16; omega)
         | (have q := e4 (fun e => by rw [e] at hrl; simp at hrl; omega); (try dsimp only at q); rw [hrl] at q; unfold Ct.sq at q; rw [ec] at h11_36; omega))
        rw [show vcO n m = [] from if_neg hno, decide_eq_false hno]
        refine C1 [m1 + 1] (A0 rfl (A0 rfl A1)) ?_
        exact (SnapL.cons _ _ _ _ (.one _ _ (.weak _ _ (A2 (b := ⟨[], 2, 44⟩) [] (List.mem_singleton.2 rfl) (by exact Q0) rfl rfl))) (SnapL.cons _ _ _ _ (.one _ _ (.bool _)) SnapL.nil))
      ·have hvw := h1_6.1.2.1.1
       obtain ⟨hyes, he⟩ := okV_yes (by omega) (by omega) ⟨hn, h1_6⟩ hls (by omega) (i := i) (by omega) hI.vc
       rw [he, decide_eq_true hyes]
       exact C1 [b] (A0 rfl (A0 rfl A1)) (SnapL.cons _ _ _ _ (.one _ _ (.weak _ _ (A2 (b := ⟨(vcL (lsO m.bd) i).map Ct.V, 2, 44⟩) ((vcL (lsO m.bd) i).map (Ct.T false)) (List.mem_singleton.2 rfl) (by exact Q0) (rowsC _).symm (by rw [List.length_map]; exact hrl.symm)))) (SnapL.cons _ _ _ _ (.one _ _ (.bool _)) SnapL.nil))
    ·refine D3 (es := []) j4 kz kb rfl rfl ?_
     have hno : ¬ okV n m := by
      rintro ⟨_, out, _, _, _, l, e, h8, _⟩
      have el : lsO m.bd = l := by unfold lsO; rw [e]
      first
      | (rw [← el] at h8; rw [List.length_map] at h4_5; omega)
      | (rw [e] at h3_5; cases h3_5)
     rw [show vcO n m = [] from if_neg hno, decide_eq_false hno]
     refine C1 [1] (A0 rfl (A0 rfl A1)) ?_
     exact (SnapL.cons _ _ _ _ (.one _ _ (.weak _ _ (A2 (b := ⟨[], 2, 44⟩) [] (List.mem_singleton.2 rfl) (by exact Q0) rfl rfl))) (SnapL.cons _ _ _ _ (.one _ _ (.bool _)) SnapL.nil))
  ·refine D3 (es := []) j4 kz kb rfl rfl ?_
   have hno : ¬ okV n m := by
    rintro ⟨q0, out, q1, q2, q3, _⟩
    first
    | omega
    | exact h1_6 q3
   rw [show vcO n m = [] from if_neg hno, decide_eq_false hno]
   refine C1 [1] (A0 rfl (A0 rfl A1)) ?_
   exact (SnapL.cons _ _ _ _ (.one _ _ (.weak _ _ (A2 (b := ⟨[], 2, 44⟩) [] (List.mem_singleton.2 rfl) (by exact Q0) rfl rfl))) (SnapL.cons _ _ _ _ (.one _ _ (.bool _)) SnapL.nil))
open Go.V
set_option linter.unusedVariables false
set_option linter.unusedSimpArgs false
set_option maxRecDepth 20000
set_option maxHeartbeats 4000000
def bdO (s : Pl) (k : Nat) : ByteArray := if (s.B.getD (k + 1) Ct0).ps.length = 0 then ⟨#[]⟩ else (s.B.getD (k + 1) Ct0).bd
def vwO (s : Pl) (k : Nat) : Int := if (s.B.getD (k + 1) Ct0).ps.length = 0 then 0 else (s.B.getD (k + 1) Ct0).vw
def bdL (s : Pl) : List ByteArray := (List.range 8).map (bdO s)
def vwL (s : Pl) : List Int := (List.range 8).map (vwO s)
theorem bdL_at (s : Pl) {x : Int} (h : 1 ≤ x ∧ x ≤ 8) : ((bdL s).map tV)[0 + (x - 1).toNat]? = some (tV (bdO s (x - 1).toNat)) := by
 unfold bdL; rw [List.getElem?_map, List.getElem?_map, List.getElem?_range (by omega), Nat.zero_add]; rfl
theorem vwL_at (s : Pl) {x : Int} (h : 1 ≤ x ∧ x ≤ 8) : ((vwL s).map iV)[0 + (x - 1).toNat]? = some (iV (vwO s (x - 1).toNat)) := by
 unfold vwL; rw [List.getElem?_map, List.getElem?_map, List.getElem?_range (by omega), Nat.zero_add]; rfl
theorem set_range {α : Type} (f g : Nat → α) (j : Nat) (v : α) (hj : j < 8) (h1 : g j = v) (h2 : ∀ k, k < 8 → k ≠ j → g k = f k) : (List.range 8).map g = ((List.range 8).map f).set j v := by
 apply List.ext_getElem?
 intro k
 by_cases hk : k < 8
 ·by_cases e : k = j
  ·subst e; rw [List.getElem?_set_self (by simp; exact hk), List.getElem?_map, List.getElem?_range hk, Option.map_some, h1]
  ·rw [List.getElem?_set_ne (fun q => e q.symm), List.getElem?_map, List.getElem?_map, List.getElem?_range hk, Option.map_some, Option.map_some, h2 k hk e]
 ·rw [List.getElem?_eq_none (by simp; omega), List.getElem?_eq_none (by simp; omega)]
theorem H8 {B : List Ct} {c : Ct} {q k : Nat} (hB : B.length = 9) (hq : q < 9) : (B.set q c).getD k Ct0 = if k = q then c else B.getD k Ct0 := by
 by_cases e : k = q
 ·subst e; rw [if_pos rfl]; simp [hB, hq]
 ·rw [if_neg e]; simp [List.getElem?_set_ne (fun q => e q.symm)]
def PlH (s : Pl) : Prop := ∀ k, 0 < (s.B.getD k Ct0).ps.length → (s.B.getD k Ct0).bd ≠ ⟨#[]⟩
theorem PlH.zero : PlH Pl0 := fun k h => by
 exfalso
 have : (Pl0.B.getD k Ct0) = Ct0 := by
  show (List.replicate 9 Ct0).getD k Ct0 = Ct0
  rw [List.getD_eq_getElem?_getD, List.getElem?_replicate]
  split <;> rfl
 rw [this] at h; exact absurd h (by decide)
theorem PlH.step {s : Pl} {c : Ct} (h : PlH s) (hb : s.B.length = 9) (hc : cG c) (hd : c.bd ≠ ⟨#[]⟩) : PlH (s.step c) := by
 intro k
 unfold Pl.step; dsimp only
 split
 ·rw [H8 hb (by have := hc.2; omega)]
  split
  ·exact fun _ => hd
  ·exact h k
 ·exact h k
theorem PlH.rn {s : Pl} {cs : List Ct} (h : PlH s) (hg : PlG s) (hc : ∀ j, j < cs.length → cG (cs.getD j Ct0)) (hd : ∀ j, j < cs.length → (cs.getD j Ct0).bd ≠ ⟨#[]⟩) : ∀ k, k ≤ cs.length → PlH (rnS s cs k)
 | 0, _ => h
 | k + 1, hk => (PlH.rn h hg hc hd k (by omega)).step (PlG.rn hg hc k (by omega)).len (hc k (by omega)) (hd k (by omega))
theorem VC.bodies {n vw : Int} {l : List ByteArray} {i : Nat} {out : List Ct} (h : VC n vw l i out) : ∀ j, j < i → (out.getD j Ct0).bd ≠ ⟨#[]⟩ := by
 induction h with
 | nil => intro j hj; omega
 | more i out c h hi hc ih =>
  intro j hj
  have hl := h.len
  by_cases e : j < i
  ·have := ih j e
   rwa [show (out ++ [c]).getD j Ct0 = out.getD j Ct0 by simp [List.getElem?_append_left (show j < out.length by omega)]]
  ·rw [show (out ++ [c]).getD j Ct0 = c by simp [show j = out.length by omega]]
   exact fun q => rb_e q hc.2.1.2.2.1.1
theorem L1 (n : Int) (m : Msg) : ∀ j, j < (vcO n m).length → ((vcO n m).getD j Ct0).bd ≠ ⟨#[]⟩ := by
 intro j hj
 by_cases h : okV n m
 ·obtain ⟨hn, out, ho⟩ := h
  have e := (okV_is hn ho).2
  rw [e] at hj ⊢
  obtain ⟨_, _, _, l, _, _, hv⟩ := ho
  exact VC.bodies hv j (by have := hv.len; omega)
 ·rw [show vcO n m = [] from if_neg h] at hj; simp at hj
theorem PlH.pl (n : Int) (L : List Msg) : ∀ i, PlH (plS n L i)
 | 0 => PlH.zero
 | i + 1 => PlH.rn (PlH.pl n L i) (PlG.pl n L i) (C0 n _) (L1 n _) _ (Nat.le_refl _)
theorem T0 {s : Pl} {c : Ct} (hH : PlH s) (hc : cG c) (h : bdO s (c.sq - 1).toNat = ⟨#[]⟩ ∨ vwO s (c.sq - 1).toNat < c.vw) : (s.B.getD c.sq.toNat Ct0).ps.length = 0 ∨ (s.B.getD c.sq.toNat Ct0).vw < c.vw := by
 have e : (c.sq - 1).toNat + 1 = c.sq.toNat := by have := hc.2; omega
 unfold bdO vwO at h
 rw [e] at h
 by_cases q : (s.B.getD c.sq.toNat Ct0).ps.length = 0
 ·exact .inl q
 ·rw [if_neg q, if_neg q] at h
  exact h.elim (fun x => absurd x (hH _ (Nat.pos_of_ne_zero q))) .inr
theorem T1 {s : Pl} {c : Ct} (hc : cG c) (h1 : ¬ bdO s (c.sq - 1).toNat = ⟨#[]⟩) (h2 : ¬ vwO s (c.sq - 1).toNat < c.vw) : ¬ ((s.B.getD c.sq.toNat Ct0).ps.length = 0 ∨ (s.B.getD c.sq.toNat Ct0).vw < c.vw) := by
 have e : (c.sq - 1).toNat + 1 = c.sq.toNat := by have := hc.2; omega
 unfold bdO at h1; unfold vwO at h2
 rw [e] at h1 h2
 by_cases q : (s.B.getD c.sq.toNat Ct0).ps.length = 0
 ·rw [if_pos q] at h1; exact absurd rfl h1
 ·rw [if_neg q] at h2; exact fun x => x.elim q h2
theorem bdL_y {s : Pl} {c : Ct} (hb : s.B.length = 9) (hc : cG c) (h : (s.B.getD c.sq.toNat Ct0).ps.length = 0 ∨ (s.B.getD c.sq.toNat Ct0).vw < c.vw) : bdL (s.step c) = (bdL s).set (c.sq - 1).toNat c.bd := by
 have h2 := hc.2
 refine set_range _ _ _ _ (by omega) ?_ (fun k hk hne => ?_)
 ·have g : (s.step c).B.getD ((c.sq - 1).toNat + 1) Ct0 = c := by rw [D8 h, H8 hb (by omega), if_pos (by omega)]
  unfold bdO; rw [g]; exact if_neg (by have := hc.1; omega)
 ·have g : (s.step c).B.getD (k + 1) Ct0 = s.B.getD (k + 1) Ct0 := by rw [D8 h, H8 hb (by omega), if_neg (by omega)]
  unfold bdO; rw [g]
theorem vwL_y {s : Pl} {c : Ct} (hb : s.B.length = 9) (hc : cG c) (h : (s.B.getD c.sq.toNat Ct0).ps.length = 0 ∨ (s.B.getD c.sq.toNat Ct0).vw < c.vw) : vwL (s.step c) = (vwL s).set (c.sq - 1).toNat c.vw := by
 have h2 := hc.2
 refine set_range _ _ _ _ (by omega) ?_ (fun k hk hne => ?_)
 ·have g : (s.step c).B.getD ((c.sq - 1).toNat + 1) Ct0 = c := by rw [D8 h, H8 hb (by omega), if_pos (by omega)]
  unfold vwO; rw [g]; exact if_neg (by have := hc.1; omega)
 ·have g : (s.step c).B.getD (k + 1) Ct0 = s.B.getD (k + 1) Ct0 := by rw [D8 h, H8 hb (by omega), if_neg (by omega)]
  unfold vwO; rw [g]
theorem J0 {s : Pl} {c : Ct} (h : ¬ ((s.B.getD c.sq.toNat Ct0).ps.length = 0 ∨ (s.B.getD c.sq.toNat Ct0).vw < c.vw)) : bdL (s.step c) = bdL s ∧ vwL (s.step c) = vwL s := by
 constructor
 ·unfold bdL; congr 1; funext k; unfold bdO; rw [F0 h]
 ·unfold vwL; congr 1; funext k; unfold vwO; rw [F0 h]
theorem bdL_0 : bdL Pl0 = List.replicate 8 ⟨#[]⟩ := rfl
theorem vwL_0 : vwL Pl0 = List.replicate 8 0 := rfl
def NM (M : List ByteArray) (i : Nat) : List ByteArray := if M.getD i ⟨#[]⟩ = ⟨#[]⟩ then M.set i nullT else M
def ouE (s : Pl) (i : Nat) : ByteArray := if (s.B.getD (i + 1) Ct0).ps.length = 0 then nullT else (s.B.getD (i + 1) Ct0).bd
theorem NM_len (M : List ByteArray) (i : Nat) : (NM M i).length = M.length := by unfold NM; split; exact List.length_set; rfl
theorem NM_at {s : Pl} (hH : PlH s) {M : List ByteArray} (hl : M.length = 8) {i : Nat} (hi : i < 8) (h : ∀ k, i ≤ k → k < 8 → M.getD k ⟨#[]⟩ = bdO s k) : ((NM M i).map tV)[0 + i]? = some (tV (ouE s i)) := by
 have q := h i (Nat.le_refl _) hi
 rw [Nat.zero_add, List.getElem?_map]
 by_cases e : (s.B.getD (i + 1) Ct0).ps.length = 0
 ·unfold bdO at q; rw [if_pos e] at q
  unfold NM ouE
  rw [if_pos q, if_pos e, List.getElem?_set_self (by omega)]; rfl
 ·unfold bdO at q; rw [if_neg e] at q
  have ne := hH _ (Nat.pos_of_ne_zero e)
  unfold NM ouE
  rw [if_neg (by rw [q]; exact ne), if_neg e, ← q]
  simp [show i < M.length by omega]
theorem NM_tail {s : Pl} {M : List ByteArray} {i : Nat} (h : ∀ k, i ≤ k → k < 8 → M.getD k ⟨#[]⟩ = bdO s k) : ∀ k, i + 1 ≤ k → k < 8 → (NM M i).getD k ⟨#[]⟩ = bdO s k := by
 intro k h1 h2
 unfold NM
 split
 ·rw [← h k (by omega) h2]; simp [List.getElem?_set_ne (show i ≠ k by omega)]
 ·exact h k (by omega) h2
theorem ouP_succ (s : Pl) (i : Nat) : ouP s (i + 1) = ouP s i ++ [ouE s i] := rfl
theorem bdL_get (s : Pl) {k : Nat} (h : k < 8) : (bdL s).getD k ⟨#[]⟩ = bdO s k := by unfold bdL; simp [h]
open Go.V
set_option linter.unusedVariables false
set_option linter.unusedSimpArgs false
set_option maxRecDepth 20000
set_option maxHeartbeats 4000000
def BDB (s : Pl) : Option Blk := some ⟨(bdL s).map tV, 1, 9⟩
def VWB (s : Pl) : Option Blk := some ⟨(vwL s).map iV, 1, 3⟩
structure QJ (n vw : Int) (L : List Msg) (a : QS) : Prop where
 il : a.i ≤ L.length
 g0 : a.g 0 = BDB (plS n L a.i)
 g1 : a.g 1 = VWB (plS n L a.i)
 mm : 2 ≤ a.m
 ok : ∀ j, j < a.i → okP n vw L j
structure RJ (s : Pl) (cs : List Ct) (a : QS) : Prop where
 il : a.i ≤ cs.length
 g0 : a.g 0 = BDB (rnS s cs a.i)
 g1 : a.g 1 = VWB (rnS s cs a.i)
 mm : 2 ≤ a.m
structure UJ where
 i : Nat
 b : Nat
 m : Nat
 M : List ByteArray
 g : Heap
structure UJI (s : Pl) (a : UJ) : Prop where
 il : (a.i : Int) ≤ s.last
 g0 : a.g 0 = some ⟨a.M.map tV, 1, 9⟩
 out : a.g a.b = some ⟨(ouP s a.i).map tV, 1, 9⟩
 bm : 2 ≤ a.b ∧ a.b < a.m
 ml : a.M.length = 8
 mt : ∀ k, a.i ≤ k → k < 8 → a.M.getD k ⟨#[]⟩ = bdO s k
theorem getVm0 {M : List ByteArray} {i : Nat} (h : i < M.length) : (M.map tV)[i]? = some (tV (M.getD i ⟨#[]⟩)) := by simp [h]
theorem r60 (n vw : Int) (hn : nodes n) (L : List Msg) (b : Bool) : Pure En 60 [.one (.int .i64 n), .one (.int .i64 vw), .one (.sl b (L.map Msg.T))] [.one (.sl false ((plO n vw L).map tT)), .one (.bool (decide (planOK n vw L)))] := by
 have hl : (L.map Msg.T).length = L.length := List.length_map ..
 have hq := I5 hn
 refine Pure.of_ev (st := [14, 23, 26]) Tryz.func60 rfl kb ?_
 refine B7 (r59 n hn) rfl rfl rfl ?_
 refine br ?_ ?_ <;> intro h1_4
 ·refine D3 (es := []) j4 kz kb rfl rfl ?_
  have hno : ¬ planOK n vw L := fun e => by have := e.1; omega
  rw [decide_eq_false hno, show plO n vw L = [] from if_neg hno]
  exact C1 [0] (A0 rfl (A0 rfl A1)) (SnapL.cons _ _ _ _ (.one _ _ (.weak _ _ (A2 (b := ⟨[], 1, 9⟩) [] (List.mem_singleton.2 rfl) (by exact Q0) rfl rfl))) (SnapL.cons _ _ _ _ (.one _ _ (.bool _)) SnapL.nil))
 ·refine emk (s' := 16) j6 kz ?_ ?_ ?_
  ·(first | omega | assumption | decide)
  ·(first | omega | assumption | decide)
  refine emk (s' := 8) j6 kz ?_ ?_ ?_
  ·(first | omega | assumption | decide)
  ·(first | omega | assumption | decide)
  refine wlG fun g0 hg0 => ?_
  refine A7 (fun (a : QS) => [.int .i64 n, .int .i64 vw, .sl false b (L.map Msg.T), .unk, .unk, .unk, .unk, .unk, .view 0 0 8, .view 1 0 8, .int .i64 (plS n L a.i).last, .int .i64 a.i]) (fun (a : QS) => a.g) (fun (a : QS) => a.m) (fun (a : QS) => QJ n vw L a) (fun (a : QS) => L.length - a.i) ⟨0, 2, g0⟩ ?_ ?_ ?_ ?_ ?_
  ·refine ⟨Nat.zero_le _, ?_, ?_, Nat.le_refl _, K9⟩
   ·dsimp only; rw [hg0]; show _ = some (Blk.mk ((bdL Pl0).map tV) 1 9); rw [bdL_0, List.map_replicate]; exact Q0
   ·dsimp only; rw [hg0]; show _ = some (Blk.mk ((vwL Pl0).map iV) 1 3); rw [vwL_0, List.map_replicate]; exact Q0
  ·(repeat first | exact LE.nil _ | refine LE.unk _ _ ?_ | refine LE.eq _ _ _ rfl ?_)
  ·exact LessH.refl _
  ·exact Nat.le_refl _
  intro ⟨i, m, g⟩ hI ih
  have q0 := hI.il
  have hg0 := hI.g0
  have hg1 := hI.g1
  have q4 := hI.mm
  have hok := hI.ok
  have ihO := ih
  unfold BDB at hg0
  unfold VWB at hg1
  dsimp only at q0 hg0 hg1 q4 hok ⊢
  refine A6 (st := [14, 23, 26]) ?_
  refine br ?_ ?_ <;> intro h7_3
  ·(refine A5 (D5 (by first | rfl | assumption | exact Q9) rfl ?_))
   refine B7 (r77 n hn (L.getD i Msg0)) rfl rfl rfl ?_
   refine brB ?_ ?_ <;> intro h9_8
   ·(refine A5 (D5 (by first | rfl | assumption | exact Q9) rfl ?_))
    refine br ?_ ?_ <;> intro h10_9
    ·refine D3 (es := []) j4 kz kb rfl rfl ?_
     have hno : ¬ planOK n vw L := fun e => by
      obtain ⟨e1, e2, e3⟩ := e.2 i (by omega)
      first
      | exact absurd e1 (of_decide_eq_false h9_8)
      | omega
      | (have := e3 (by omega); omega)
     rw [decide_eq_false hno, show plO n vw L = [] from if_neg hno]
     exact C1 [m] (A0 rfl (A0 rfl A1)) (SnapL.cons _ _ _ _ (.one _ _ (.weak _ _ (A2 (b := ⟨[], 1, 9⟩) [] (List.mem_singleton.2 rfl) (by exact Q0) rfl rfl))) (SnapL.cons _ _ _ _ (.one _ _ (.bool _)) SnapL.nil))
    ·refine br ?_ ?_ <;> intro h10_13
     ·refine A5 ?_
      (refine A5 (D5 (by first | rfl | assumption | exact Q9) rfl ?_))
      (refine A5 (D5 (by first | rfl | assumption | exact Q9) rfl ?_))
      refine br ?_ ?_ <;> intro h10_26
      ·refine D3 (es := []) j4 kz kb rfl rfl ?_
       have hno : ¬ planOK n vw L := fun e => by
        obtain ⟨e1, e2, e3⟩ := e.2 i (by omega)
        first
        | exact absurd e1 (of_decide_eq_false h9_8)
        | omega
        | (have := e3 (by omega); omega)
       rw [decide_eq_false hno, show plO n vw L = [] from if_neg hno]
       exact C1 [m] (A0 rfl (A0 rfl A1)) (SnapL.cons _ _ _ _ (.one _ _ (.weak _ _ (A2 (b := ⟨[], 1, 9⟩) [] (List.mem_singleton.2 rfl) (by exact Q0) rfl rfl))) (SnapL.cons _ _ _ _ (.one _ _ (.bool _)) SnapL.nil))
      ·have hc8 := K4 n (L.getD i Msg0)
       have hlc : ((vcO n (L.getD i Msg0)).map (Ct.T false)).length = (vcO n (L.getD i Msg0)).length := List.length_map ..
       refine A7 (fun (a : QS) => [.int .i64 n, .int .i64 vw, .sl false b (L.map Msg.T), .unk, .unk, .unk, .unk, .unk, .view 0 0 8, .view 1 0 8, .int .i64 (rnS (plS n L i) (vcO n (L.getD i Msg0)) a.i).last, .int .i64 i, .sl true false ((vcO n (L.getD i Msg0)).map (Ct.T false)), .unk, .int .i64 a.i]) (fun (a : QS) => a.g) (fun (a : QS) => a.m) (fun (a : QS) => RJ (plS n L i) (vcO n (L.getD i Msg0)) a) (fun (a : QS) => (vcO n (L.getD i Msg0)).length - a.i) ⟨0, m, g⟩ ?_ ?_ ?_ ?_ ?_
       ·exact ⟨Nat.zero_le _, hI.g0, hI.g1, hI.mm⟩
       ·(repeat first | exact LE.nil _ | refine LE.unk _ _ ?_ | refine LE.eq _ _ _ rfl ?_)
       ·exact LessH.refl _
       ·exact Nat.le_refl _
       intro ⟨k, m2, g2⟩ hI ih
       have r0 := hI.il
       have hg2 := hI.g0
       have hg3 := hI.g1
       have r4 := hI.mm
       unfold BDB at hg2
       unfold VWB at hg3
       dsimp only at r0 hg2 hg3 r4 ⊢
       have hpg := PlG.rn (PlG.pl n L i) (C0 n (L.getD i Msg0)) k r0
       have hHk := PlH.rn (PlH.pl n L i) (PlG.pl n L i) (C0 n (L.getD i Msg0)) (L1 n (L.getD i Msg0)) k r0
       have hp9 := hpg.len
       refine A6 (st := [14, 23, 26]) ?_
       refine br ?_ ?_ <;> intro h13_3
       ·have hkl : k < (vcO n (L.getD i Msg0)).length := by omega
        have hgd := C0 n (L.getD i Msg0) k hkl
        have hgd2 : 1 ≤ (((vcO n (L.getD i Msg0)).getD k Ct0).ps.getD 0 Msg0).sq ∧ (((vcO n (L.getD i Msg0)).getD k Ct0).ps.getD 0 Msg0).sq ≤ 8 := hgd.2
        (refine A5 (D5 (by first | rfl | assumption | exact Q9) rfl ?_))
        (refine A5 (D5 (by first | rfl | assumption | exact Q9) rfl ?_))
        (apply est (u := .agg [.int _ _, .int _ _, .int _ _, .int _ _, .str _, .str _, .str _]) j3; exact Q0; exact Q4; exact j4; exact kb; rfl)
        refine A4 ?_ (by exact Q0) (by exact Q4)
        refine A4 ?_ (by exact Q0) (by exact Q4)
        refine A5 ?_
        (refine C8 (by exact Q0) ⟨rfl, A5 ?_⟩)
        refine A4 ?_ (by exact Q0) (by exact Q4)
        refine br ?_ ?_ <;> intro h17_6
        ·refine A4 ?_ (by exact Q0) (by exact Q4)
         refine A5 ?_
         (refine A5 (D5 (by first | rfl | assumption | exact Q9) rfl ?_))
         (refine C8 (by exact Q0) ⟨rfl, A5 ?_⟩)
         (apply est (u := .str _) j3; exact Q0; exact Q4; exact j4; exact kb; rfl)
         refine E7 ?_
         refine A4 ?_ (by exact Q0) (by exact Q4)
         refine A5 ?_
         refine A4 ?_ (by exact Q0) (by exact Q4)
         (refine C8 (by exact Q0) ⟨rfl, A5 ?_⟩)
         (apply est (u := .int _ _) j3; exact Q0; exact Q4; exact j4; exact kb; rfl)
         refine F1 fun G hG => ?_
         refine A5 ?_
         refine C6 (ih ⟨k + 1, m2 + 1, G⟩ ⟨by dsimp only; omega, ?_, ?_, by dsimp only; omega⟩ (by dsimp only; omega)) (by (repeat first | exact LE.nil _ | refine LE.unk _ _ ?_ | refine LE.eq _ _ _ rfl ?_)) (LessH.refl _) (Nat.le_refl _)
         ·dsimp only
          show G 0 = some ⟨(bdL ((rnS (plS n L i) (vcO n (L.getD i Msg0)) k).step ((vcO n (L.getD i Msg0)).getD k Ct0))).map tV, 1, 9⟩
          first
          | (have hu := T0 hHk hgd (by first | exact .inl h17_6 | exact .inr h17_16)
             rw [bdL_y hp9 hgd hu, List.map_set, hG]; (simp (disch := omega) only [↓app0, ↓appC, ↓updS, ↓updN]); rw [Nat.zero_add]; rfl)
          | (rw [(J0 (T1 hgd h17_6 h17_16)).1, hG]; exact Q0)
         ·dsimp only
          show G 1 = some ⟨(vwL ((rnS (plS n L i) (vcO n (L.getD i Msg0)) k).step ((vcO n (L.getD i Msg0)).getD k Ct0))).map iV, 1, 3⟩
          first
          | (have hu := T0 hHk hgd (by first | exact .inl h17_6 | exact .inr h17_16)
             rw [vwL_y hp9 hgd hu, List.map_set, hG]; (simp (disch := omega) only [↓app0, ↓appC, ↓updS, ↓updN]); rw [Nat.zero_add]; rfl)
          | (rw [(J0 (T1 hgd h17_6 h17_16)).2, hG]; exact Q0)
        ·refine A4 ?_ (by exact Q0) (by exact Q4)
         refine A4 ?_ (by exact Q0) (by exact Q4)
         refine A5 ?_
         (refine C8 (by exact Q0) ⟨rfl, A5 ?_⟩)
         refine A4 ?_ (by exact Q0) (by exact Q4)
         refine br ?_ ?_ <;> intro h17_16
         ·refine A4 ?_ (by exact Q0) (by exact Q4)
          refine A5 ?_
          (refine A5 (D5 (by first | rfl | assumption | exact Q9) rfl ?_))
          (refine C8 (by exact Q0) ⟨rfl, A5 ?_⟩)
          (apply est (u := .str _) j3; exact Q0; exact Q4; exact j4; exact kb; rfl)
          refine E7 ?_
          refine A4 ?_ (by exact Q0) (by exact Q4)
          refine A5 ?_
          refine A4 ?_ (by exact Q0) (by exact Q4)
          (refine C8 (by exact Q0) ⟨rfl, A5 ?_⟩)
          (apply est (u := .int _ _) j3; exact Q0; exact Q4; exact j4; exact kb; rfl)
          refine F1 fun G hG => ?_
          refine A5 ?_
          refine C6 (ih ⟨k + 1, m2 + 1, G⟩ ⟨by dsimp only; omega, ?_, ?_, by dsimp only; omega⟩ (by dsimp only; omega)) (by (repeat first | exact LE.nil _ | refine LE.unk _ _ ?_ | refine LE.eq _ _ _ rfl ?_)) (LessH.refl _) (Nat.le_refl _)
          ·dsimp only
           show G 0 = some ⟨(bdL ((rnS (plS n L i) (vcO n (L.getD i Msg0)) k).step ((vcO n (L.getD i Msg0)).getD k Ct0))).map tV, 1, 9⟩
           first
           | (have hu := T0 hHk hgd (by first | exact .inl h17_6 | exact .inr h17_16)
              rw [bdL_y hp9 hgd hu, List.map_set, hG]; (simp (disch := omega) only [↓app0, ↓appC, ↓updS, ↓updN]); rw [Nat.zero_add]; rfl)
           | (rw [(J0 (T1 hgd h17_6 h17_16)).1, hG]; exact Q0)
          ·dsimp only
           show G 1 = some ⟨(vwL ((rnS (plS n L i) (vcO n (L.getD i Msg0)) k).step ((vcO n (L.getD i Msg0)).getD k Ct0))).map iV, 1, 3⟩
           first
           | (have hu := T0 hHk hgd (by first | exact .inl h17_6 | exact .inr h17_16)
              rw [vwL_y hp9 hgd hu, List.map_set, hG]; (simp (disch := omega) only [↓app0, ↓appC, ↓updS, ↓updN]); rw [Nat.zero_add]; rfl)
           | (rw [(J0 (T1 hgd h17_6 h17_16)).2, hG]; exact Q0)
         ·refine F1 fun G hG => ?_
          refine A5 ?_
          refine C6 (ih ⟨k + 1, m2 + 1, G⟩ ⟨by dsimp only; omega, ?_, ?_, by dsimp only; omega⟩ (by dsimp only; omega)) (by (repeat first | exact LE.nil _ | refine LE.unk _ _ ?_ | refine LE.eq _ _ _ rfl ?_)) (LessH.refl _) (Nat.le_refl _)
          ·dsimp only
           show G 0 = some ⟨(bdL ((rnS (plS n L i) (vcO n (L.getD i Msg0)) k).step ((vcO n (L.getD i Msg0)).getD k Ct0))).map tV, 1, 9⟩
           first
           | (have hu := T0 hHk hgd (by first | exact .inl h17_6 | exact .inr h17_16)
              rw [bdL_y hp9 hgd hu, List.map_set, hG]; (simp (disch := omega) only [↓app0, ↓appC, ↓updS, ↓updN]); rw [Nat.zero_add]; rfl)
           | (rw [(J0 (T1 hgd h17_6 h17_16)).1, hG]; exact Q0)
          ·dsimp only
           show G 1 = some ⟨(vwL ((rnS (plS n L i) (vcO n (L.getD i Msg0)) k).step ((vcO n (L.getD i Msg0)).getD k Ct0))).map iV, 1, 3⟩
           first
           | (have hu := T0 hHk hgd (by first | exact .inl h17_6 | exact .inr h17_16)
              rw [vwL_y hp9 hgd hu, List.map_set, hG]; (simp (disch := omega) only [↓app0, ↓appC, ↓updS, ↓updN]); rw [Nat.zero_add]; rfl)
           | (rw [(J0 (T1 hgd h17_6 h17_16)).2, hG]; exact Q0)
       ·refine A5 ?_
        have hip : okP n vw L i := ⟨of_decide_eq_true h9_8, by omega, fun _ => by omega⟩
        obtain rfl : k = (vcO n (L.getD i Msg0)).length := by omega
        refine C6 (ihO ⟨i + 1, m2, g2⟩ ⟨by dsimp only; omega, hI.g0, hI.g1, hI.mm, fun j hj => ?_⟩ (by dsimp only; omega)) (by (repeat first | exact LE.nil _ | refine LE.unk _ _ ?_ | refine LE.eq _ _ _ rfl ?_)) (LessH.refl _) (Nat.le_refl _)
        rcases Nat.lt_succ_iff_lt_or_eq.1 hj with q | q
        ·exact hok j q
        ·rw [q]; exact hip
     ·have hc8 := K4 n (L.getD i Msg0)
      have hlc : ((vcO n (L.getD i Msg0)).map (Ct.T false)).length = (vcO n (L.getD i Msg0)).length := List.length_map ..
      refine A7 (fun (a : QS) => [.int .i64 n, .int .i64 vw, .sl false b (L.map Msg.T), .unk, .unk, .unk, .unk, .unk, .view 0 0 8, .view 1 0 8, .int .i64 (rnS (plS n L i) (vcO n (L.getD i Msg0)) a.i).last, .int .i64 i, .sl true false ((vcO n (L.getD i Msg0)).map (Ct.T false)), .unk, .int .i64 a.i]) (fun (a : QS) => a.g) (fun (a : QS) => a.m) (fun (a : QS) => RJ (plS n L i) (vcO n (L.getD i Msg0)) a) (fun (a : QS) => (vcO n (L.getD i Msg0)).length - a.i) ⟨0, m, g⟩ ?_ ?_ ?_ ?_ ?_
      ·exact ⟨Nat.zero_le _, hI.g0, hI.g1, hI.mm⟩
      ·(repeat first | exact LE.nil _ | refine LE.unk _ _ ?_ | refine LE.eq _ _ _ rfl ?_)
      ·exact LessH.refl _
      ·exact Nat.le_refl _
      intro ⟨k, m2, g2⟩ hI ih
      have r0 := hI.il
      have hg2 := hI.g0
      have hg3 := hI.g1
      have r4 := hI.mm
      unfold BDB at hg2
      unfold VWB at hg3
      dsimp only at r0 hg2 hg3 r4 ⊢
      have hpg := PlG.rn (PlG.pl n L i) (C0 n (L.getD i Msg0)) k r0
      have hHk := PlH.rn (PlH.pl n L i) (PlG.pl n L i) (C0 n (L.getD i Msg0)) (L1 n (L.getD i Msg0)) k r0
      have hp9 := hpg.len
      refine A6 (st := [14, 23, 26]) ?_
      refine br ?_ ?_ <;> intro h13_3
      ·have hkl : k < (vcO n (L.getD i Msg0)).length := by omega
       have hgd := C0 n (L.getD i Msg0) k hkl
       have hgd2 : 1 ≤ (((vcO n (L.getD i Msg0)).getD k Ct0).ps.getD 0 Msg0).sq ∧ (((vcO n (L.getD i Msg0)).getD k Ct0).ps.getD 0 Msg0).sq ≤ 8 := hgd.2
       (refine A5 (D5 (by first | rfl | assumption | exact Q9) rfl ?_))
       (refine A5 (D5 (by first | rfl | assumption | exact Q9) rfl ?_))
       (apply est (u := .agg [.int _ _, .int _ _, .int _ _, .int _ _, .str _, .str _, .str _]) j3; exact Q0; exact Q4; exact j4; exact kb; rfl)
       refine A4 ?_ (by exact Q0) (by exact Q4)
       refine A4 ?_ (by exact Q0) (by exact Q4)
       refine A5 ?_
       (refine C8 (by exact Q0) ⟨rfl, A5 ?_⟩)
       refine A4 ?_ (by exact Q0) (by exact Q4)
       refine br ?_ ?_ <;> intro h17_6
       ·refine A4 ?_ (by exact Q0) (by exact Q4)
        refine A5 ?_
        (refine A5 (D5 (by first | rfl | assumption | exact Q9) rfl ?_))
        (refine C8 (by exact Q0) ⟨rfl, A5 ?_⟩)
        (apply est (u := .str _) j3; exact Q0; exact Q4; exact j4; exact kb; rfl)
        refine E7 ?_
        refine A4 ?_ (by exact Q0) (by exact Q4)
        refine A5 ?_
        refine A4 ?_ (by exact Q0) (by exact Q4)
        (refine C8 (by exact Q0) ⟨rfl, A5 ?_⟩)
        (apply est (u := .int _ _) j3; exact Q0; exact Q4; exact j4; exact kb; rfl)
        refine F1 fun G hG => ?_
        refine A5 ?_
        refine C6 (ih ⟨k + 1, m2 + 1, G⟩ ⟨by dsimp only; omega, ?_, ?_, by dsimp only; omega⟩ (by dsimp only; omega)) (by (repeat first | exact LE.nil _ | refine LE.unk _ _ ?_ | refine LE.eq _ _ _ rfl ?_)) (LessH.refl _) (Nat.le_refl _)
        ·dsimp only
         show G 0 = some ⟨(bdL ((rnS (plS n L i) (vcO n (L.getD i Msg0)) k).step ((vcO n (L.getD i Msg0)).getD k Ct0))).map tV, 1, 9⟩
         first
         | (have hu := T0 hHk hgd (by first | exact .inl h17_6 | exact .inr h17_16)
            rw [bdL_y hp9 hgd hu, List.map_set, hG]; (simp (disch := omega) only [↓app0, ↓appC, ↓updS, ↓updN]); rw [Nat.zero_add]; rfl)
         | (rw [(J0 (T1 hgd h17_6 h17_16)).1, hG]; exact Q0)
        ·dsimp only
         show G 1 = some ⟨(vwL ((rnS (plS n L i) (vcO n (L.getD i Msg0)) k).step ((vcO n (L.getD i Msg0)).getD k Ct0))).map iV, 1, 3⟩
         first
         | (have hu := T0 hHk hgd (by first | exact .inl h17_6 | exact .inr h17_16)
            rw [vwL_y hp9 hgd hu, List.map_set, hG]; (simp (disch := omega) only [↓app0, ↓appC, ↓updS, ↓updN]); rw [Nat.zero_add]; rfl)
         | (rw [(J0 (T1 hgd h17_6 h17_16)).2, hG]; exact Q0)
       ·refine A4 ?_ (by exact Q0) (by exact Q4)
        refine A4 ?_ (by exact Q0) (by exact Q4)
        refine A5 ?_
        (refine C8 (by exact Q0) ⟨rfl, A5 ?_⟩)
        refine A4 ?_ (by exact Q0) (by exact Q4)
        refine br ?_ ?_ <;> intro h17_16
        ·refine A4 ?_ (by exact Q0) (by exact Q4)
         refine A5 ?_
         (refine A5 (D5 (by first | rfl | assumption | exact Q9) rfl ?_))
         (refine C8 (by exact Q0) ⟨rfl, A5 ?_⟩)
         (apply est (u := .str _) j3; exact Q0; exact Q4; exact j4; exact kb; rfl)
         refine E7 ?_
         refine A4 ?_ (by exact Q0) (by exact Q4)
         refine A5 ?_
         refine A4 ?_ (by exact Q0) (by exact Q4)
         (refine C8 (by exact Q0) ⟨rfl, A5 ?_⟩)
         (apply est (u := .int _ _) j3; exact Q0; exact Q4; exact j4; exact kb; rfl)
         refine F1 fun G hG => ?_
         refine A5 ?_
         refine C6 (ih ⟨k + 1, m2 + 1, G⟩ ⟨by dsimp only; omega, ?_, ?_, by dsimp only; omega⟩ (by dsimp only; omega)) (by (repeat first | exact LE.nil _ | refine LE.unk _ _ ?_ | refine LE.eq _ _ _ rfl ?_)) (LessH.refl _) (Nat.le_refl _)
         ·dsimp only
          show G 0 = some ⟨(bdL ((rnS (plS n L i) (vcO n (L.getD i Msg0)) k).step ((vcO n (L.getD i Msg0)).getD k Ct0))).map tV, 1, 9⟩
          first
          | (have hu := T0 hHk hgd (by first | exact .inl h17_6 | exact .inr h17_16)
             rw [bdL_y hp9 hgd hu, List.map_set, hG]; (simp (disch := omega) only [↓app0, ↓appC, ↓updS, ↓updN]); rw [Nat.zero_add]; rfl)
          | (rw [(J0 (T1 hgd h17_6 h17_16)).1, hG]; exact Q0)
         ·dsimp only
          show G 1 = some ⟨(vwL ((rnS (plS n L i) (vcO n (L.getD i Msg0)) k).step ((vcO n (L.getD i Msg0)).getD k Ct0))).map iV, 1, 3⟩
          first
          | (have hu := T0 hHk hgd (by first | exact .inl h17_6 | exact .inr h17_16)
             rw [vwL_y hp9 hgd hu, List.map_set, hG]; (simp (disch := omega) only [↓app0, ↓appC, ↓updS, ↓updN]); rw [Nat.zero_add]; rfl)
          | (rw [(J0 (T1 hgd h17_6 h17_16)).2, hG]; exact Q0)
        ·refine F1 fun G hG => ?_
         refine A5 ?_
         refine C6 (ih ⟨k + 1, m2 + 1, G⟩ ⟨by dsimp only; omega, ?_, ?_, by dsimp only; omega⟩ (by dsimp only; omega)) (by (repeat first | exact LE.nil _ | refine LE.unk _ _ ?_ | refine LE.eq _ _ _ rfl ?_)) (LessH.refl _) (Nat.le_refl _)
         ·dsimp only
          show G 0 = some ⟨(bdL ((rnS (plS n L i) (vcO n (L.getD i Msg0)) k).step ((vcO n (L.getD i Msg0)).getD k Ct0))).map tV, 1, 9⟩
          first
          | (have hu := T0 hHk hgd (by first | exact .inl h17_6 | exact .inr h17_16)
             rw [bdL_y hp9 hgd hu, List.map_set, hG]; (simp (disch := omega) only [↓app0, ↓appC, ↓updS, ↓updN]); rw [Nat.zero_add]; rfl)
          | (rw [(J0 (T1 hgd h17_6 h17_16)).1, hG]; exact Q0)
         ·dsimp only
          show G 1 = some ⟨(vwL ((rnS (plS n L i) (vcO n (L.getD i Msg0)) k).step ((vcO n (L.getD i Msg0)).getD k Ct0))).map iV, 1, 3⟩
          first
          | (have hu := T0 hHk hgd (by first | exact .inl h17_6 | exact .inr h17_16)
             rw [vwL_y hp9 hgd hu, List.map_set, hG]; (simp (disch := omega) only [↓app0, ↓appC, ↓updS, ↓updN]); rw [Nat.zero_add]; rfl)
          | (rw [(J0 (T1 hgd h17_6 h17_16)).2, hG]; exact Q0)
      ·refine A5 ?_
       have hip : okP n vw L i := ⟨of_decide_eq_true h9_8, by omega, fun _ => by omega⟩
       obtain rfl : k = (vcO n (L.getD i Msg0)).length := by omega
       refine C6 (ihO ⟨i + 1, m2, g2⟩ ⟨by dsimp only; omega, hI.g0, hI.g1, hI.mm, fun j hj => ?_⟩ (by dsimp only; omega)) (by (repeat first | exact LE.nil _ | refine LE.unk _ _ ?_ | refine LE.eq _ _ _ rfl ?_)) (LessH.refl _) (Nat.le_refl _)
       rcases Nat.lt_succ_iff_lt_or_eq.1 hj with q | q
       ·exact hok j q
       ·rw [q]; exact hip
   ·refine D3 (es := []) j4 kz kb rfl rfl ?_
    have hno : ¬ planOK n vw L := fun e => by
     obtain ⟨e1, e2, e3⟩ := e.2 i (by omega)
     first
     | exact absurd e1 (of_decide_eq_false h9_8)
     | omega
     | (have := e3 (by omega); omega)
    rw [decide_eq_false hno, show plO n vw L = [] from if_neg hno]
    exact C1 [m] (A0 rfl (A0 rfl A1)) (SnapL.cons _ _ _ _ (.one _ _ (.weak _ _ (A2 (b := ⟨[], 1, 9⟩) [] (List.mem_singleton.2 rfl) (by exact Q0) rfl rfl))) (SnapL.cons _ _ _ _ (.one _ _ (.bool _)) SnapL.nil))
  ·obtain rfl : i = L.length := by omega
   have hpo : planOK n vw L := ⟨by omega, hok⟩
   have hpg := PlG.pl n L L.length
   have hH := PlH.pl n L L.length
   have hlo9 := hpg.lo
   have hhi9 := hpg.hi
   refine D3 (es := []) j4 kz kb rfl rfl ?_
   refine wlG fun g3 hg3 => ?_
   refine A7 (fun (a : UJ) => [.unk, .unk, .unk, .unk, .unk, .unk, .unk, .unk, .view 0 0 8, .unk, .int .i64 (plS n L L.length).last, .unk, .unk, .unk, .unk, .unk, .view a.b 0 a.i, .int .i64 a.i]) (fun (a : UJ) => a.g) (fun (a : UJ) => a.m) (fun (a : UJ) => UJI (plS n L L.length) a) (fun (a : UJ) => (plS n L L.length).last.toNat - a.i) ⟨0, m, m + 1, bdL (plS n L L.length), g3⟩ ?_ ?_ ?_ ?_ ?_
   ·refine ⟨by dsimp only; omega, ?_, ?_, ⟨by dsimp only; omega, by dsimp only; omega⟩, rfl, fun k _ hk => bdL_get _ hk⟩
    ·dsimp only; rw [hg3]; exact Q0
    ·dsimp only; rw [hg3]; exact Q0
   ·(repeat first | exact LE.nil _ | refine LE.unk _ _ ?_ | refine LE.eq _ _ _ rfl ?_)
   ·exact LessH.refl _
   ·exact Nat.le_refl _
   intro ⟨i2, b2, m2, M, g2⟩ hI ih
   have r0 := hI.il
   have hg2 := hI.g0
   have hgo := hI.out
   have r4 := hI.bm
   have hml := hI.ml
   have hmt := hI.mt
   dsimp only at r0 hg2 hgo r4 hml hmt ⊢
   have hrl := N9 (plS n L L.length) i2
   refine A6 (st := [14, 23, 26]) ?_
   refine br ?_ ?_ <;> intro h22_2
   ·(refine C8 (by exact Q0) ⟨rfl, A5 ?_⟩)
    refine A4 ?_ (by exact Q0) (by exact Q4)
    refine br ?_ ?_ <;> intro h24_4
    ·(refine C8 (by exact Q0) ⟨rfl, A5 ?_⟩)
     (apply est (u := .str _) j3; exact Q0; exact Q4; exact j4; exact kb; rfl)
     refine F1 fun G hG => ?_
     have hG0 : G 0 = some ⟨(NM M i2).map tV, 1, 9⟩ := by
      rw [hG]
      first
      | (rw [show NM M i2 = M.set i2 nullT from if_pos h24_4, List.map_set]; (simp (disch := omega) only [↓app0, ↓appC, ↓updS, ↓updN]); rw [Nat.zero_add]; rfl)
      | (rw [show NM M i2 = M from if_neg h24_4]; exact Q0)
     have hGb : G b2 = some ⟨(ouP (plS n L L.length) i2).map tV, 1, 9⟩ := by rw [hG]; exact Q0
     (refine C8 (by exact Q0) ⟨rfl, A5 ?_⟩)
     refine A4 ?_ (by exact Q0) (by exact Q4)
     refine D3 (es := [[.str _]]) j4 kz kb rfl rfl ?_
     (apply eap (s' := 16) (es := [[.str _]]) rfl rfl; exact Q0; exact j2; exact U4; exact j2; exact kz; exact Q7; exact Q3; exact Q2; exact Q2)
     refine F1 fun G2 hG2 => ?_
     refine A5 ?_
     refine C6 (ih ⟨i2 + 1, m2 + 1, m2 + 1 + 1, NM M i2, G2⟩ ⟨by dsimp only; omega, ?_, ?_, ⟨by dsimp only; omega, by dsimp only; omega⟩, (NM_len _ _).trans hml, NM_tail hmt⟩ (by dsimp only; omega)) (by (repeat first | exact LE.nil _ | refine LE.unk _ _ ?_ | refine LE.eq _ _ _ rfl ?_)) (LessH.refl _) (Nat.le_refl _)
     ·dsimp only; rw [hG2]; exact Q0
     ·dsimp only; rw [hG2, ouP_succ, List.map_append]; exact Q0
    ·refine F1 fun G hG => ?_
     have hG0 : G 0 = some ⟨(NM M i2).map tV, 1, 9⟩ := by
      rw [hG]
      first
      | (rw [show NM M i2 = M.set i2 nullT from if_pos h24_4, List.map_set]; (simp (disch := omega) only [↓app0, ↓appC, ↓updS, ↓updN]); rw [Nat.zero_add]; rfl)
      | (rw [show NM M i2 = M from if_neg h24_4]; exact Q0)
     have hGb : G b2 = some ⟨(ouP (plS n L L.length) i2).map tV, 1, 9⟩ := by rw [hG]; exact Q0
     (refine C8 (by exact Q0) ⟨rfl, A5 ?_⟩)
     refine A4 ?_ (by exact Q0) (by exact Q4)
     refine D3 (es := [[.str _]]) j4 kz kb rfl rfl ?_
     (apply eap (s' := 16) (es := [[.str _]]) rfl rfl; exact Q0; exact j2; exact U4; exact j2; exact kz; exact Q7; exact Q3; exact Q2; exact Q2)
     refine F1 fun G2 hG2 => ?_
     refine A5 ?_
     refine C6 (ih ⟨i2 + 1, m2 + 1, m2 + 1 + 1, NM M i2, G2⟩ ⟨by dsimp only; omega, ?_, ?_, ⟨by dsimp only; omega, by dsimp only; omega⟩, (NM_len _ _).trans hml, NM_tail hmt⟩ (by dsimp only; omega)) (by (repeat first | exact LE.nil _ | refine LE.unk _ _ ?_ | refine LE.eq _ _ _ rfl ?_)) (LessH.refl _) (Nat.le_refl _)
     ·dsimp only; rw [hG2]; exact Q0
     ·dsimp only; rw [hG2, ouP_succ, List.map_append]; exact Q0
   ·have hek : i2 = (plS n L L.length).last.toNat := by omega
    rw [decide_eq_true hpo, show plO n vw L = ouP (plS n L L.length) i2 from (if_pos hpo).trans (by rw [hek]; congr 1; omega)]
    exact C1 [b2] (A0 rfl (A0 rfl A1)) (SnapL.cons _ _ _ _ (.one _ _ (.weak _ _ (A2 (b := ⟨(ouP (plS n L L.length) i2).map tV, 1, 9⟩) ((ouP (plS n L L.length) i2).map tT) (List.mem_singleton.2 rfl) (by exact Q0) (rowsT _).symm (by rw [List.length_map]; exact hrl.symm)))) (SnapL.cons _ _ _ _ (.one _ _ (.bool _)) SnapL.nil))
open Go.V
set_option linter.unusedVariables false
set_option linter.unusedSimpArgs false
set_option maxRecDepth 20000
set_option maxHeartbeats 4000000
theorem r14 (n vw : Int) (L : List Msg) (b : Bool) : Pure En 14 [.one (.int .i64 n), .one (.int .i64 vw), .one (.sl b (L.map Msg.T))] [.one (.sl false ((pnO n vw L).map tT)), .one (.int .i64 (pnC n vw L))] := by
 have hl : (L.map Msg.T).length = L.length := List.length_map ..
 refine Pure.of_ev (st := []) Tryz.func14 rfl kb ?_
 refine br ?_ ?_ <;> intro h1_2
 ·refine D3 (es := []) j4 kz kb rfl rfl ?_
  have hc : 4096 < L.length := by omega
  rw [show pnC n vw L = 2 from if_pos hc, show pnO n vw L = [] from if_pos hc]
  exact C1 [0] (A0 rfl (A0 rfl A1)) (SnapL.cons _ _ _ _ (.one _ _ (.weak _ _ (A2 (b := ⟨[], 1, 9⟩) [] (List.mem_singleton.2 rfl) (by exact Q0) rfl rfl))) (SnapL.cons _ _ _ _ (.one _ _ (.int _ _)) SnapL.nil))
 ·refine B2 (s49 n) rfl j2 ?_ ?_ <;> intro h3_1
  ·refine B2 (s50 _ _ _) rfl j2 ?_ ?_ <;> intro h3_5
   ·refine B7 (r59 n h3_1) rfl rfl rfl ?_
    refine br ?_ ?_ <;> intro h5_4
    ·refine D3 (es := []) j4 kz kb rfl rfl ?_
     have hc : ¬ 4096 < L.length := by omega
     have hy : nodes n ∧ 1 ≤ vw ∧ vw ≤ 20 := ⟨h3_1, h3_5⟩
     rw [show pnC n vw L = plC n vw L from (if_neg hc).trans (if_pos hy), show pnO n vw L = plO n vw L from (if_neg hc).trans (if_pos hy)]
     have hno : ¬ planOK n vw L := fun e => by have := e.1; omega
     rw [show plC n vw L = 19 from if_neg (fun e => by omega), show plO n vw L = [] from if_neg hno]
     exact C1 [0] (A0 rfl (A0 rfl A1)) (SnapL.cons _ _ _ _ (.one _ _ (.weak _ _ (A2 (b := ⟨[], 1, 9⟩) [] (List.mem_singleton.2 rfl) (by exact Q0) rfl rfl))) (SnapL.cons _ _ _ _ (.one _ _ (.int _ _)) SnapL.nil))
    ·refine B7 (r60 n vw h3_1 L b) rfl rfl rfl ?_
     refine brB ?_ ?_ <;> intro h7_6
     ·have hc : ¬ 4096 < L.length := by omega
      have hy : nodes n ∧ 1 ≤ vw ∧ vw ≤ 20 := ⟨h3_1, h3_5⟩
      rw [show pnC n vw L = plC n vw L from (if_neg hc).trans (if_pos hy), show pnO n vw L = plO n vw L from (if_neg hc).trans (if_pos hy)]
      have hpo : planOK n vw L := of_decide_eq_true h7_6
      rw [show plC n vw L = 0 from (if_pos (by omega)).trans (if_pos hpo)]
      exact D0 rfl rfl
     ·refine D3 (es := []) j4 kz kb rfl rfl ?_
      have hc : ¬ 4096 < L.length := by omega
      have hy : nodes n ∧ 1 ≤ vw ∧ vw ≤ 20 := ⟨h3_1, h3_5⟩
      rw [show pnC n vw L = plC n vw L from (if_neg hc).trans (if_pos hy), show pnO n vw L = plO n vw L from (if_neg hc).trans (if_pos hy)]
      have hno : ¬ planOK n vw L := of_decide_eq_false h7_6
      rw [show plC n vw L = 12 from (if_pos (by omega)).trans (if_neg hno), show plO n vw L = [] from if_neg hno]
      exact C1 [0] (A0 rfl (A0 rfl A1)) (SnapL.cons _ _ _ _ (.one _ _ (.weak _ _ (A2 (b := ⟨[], 1, 9⟩) [] (List.mem_singleton.2 rfl) (by exact Q0) rfl rfl))) (SnapL.cons _ _ _ _ (.one _ _ (.int _ _)) SnapL.nil))
   ·refine D3 (es := []) j4 kz kb rfl rfl ?_
    have hc : ¬ 4096 < L.length := by omega
    have hno : ¬ (nodes n ∧ 1 ≤ vw ∧ vw ≤ 20) := fun e => by
     first
     | exact h3_1 e.1
     | exact h3_5 e.2
    rw [show pnC n vw L = 4 from (if_neg hc).trans (if_neg hno), show pnO n vw L = [] from (if_neg hc).trans (if_neg hno)]
    exact C1 [0] (A0 rfl (A0 rfl A1)) (SnapL.cons _ _ _ _ (.one _ _ (.weak _ _ (A2 (b := ⟨[], 1, 9⟩) [] (List.mem_singleton.2 rfl) (by exact Q0) rfl rfl))) (SnapL.cons _ _ _ _ (.one _ _ (.int _ _)) SnapL.nil))
  ·refine D3 (es := []) j4 kz kb rfl rfl ?_
   have hc : ¬ 4096 < L.length := by omega
   have hno : ¬ (nodes n ∧ 1 ≤ vw ∧ vw ≤ 20) := fun e => by
    first
    | exact h3_1 e.1
    | exact h3_5 e.2
   rw [show pnC n vw L = 4 from (if_neg hc).trans (if_neg hno), show pnO n vw L = [] from (if_neg hc).trans (if_neg hno)]
   exact C1 [0] (A0 rfl (A0 rfl A1)) (SnapL.cons _ _ _ _ (.one _ _ (.weak _ _ (A2 (b := ⟨[], 1, 9⟩) [] (List.mem_singleton.2 rfl) (by exact Q0) rfl rfl))) (SnapL.cons _ _ _ _ (.one _ _ (.int _ _)) SnapL.nil))
open Go.V
set_option linter.unusedVariables false
set_option linter.unusedSimpArgs false
set_option maxRecDepth 20000
set_option maxHeartbeats 4000000
theorem fL_str (l : List ByteArray) : ∀ e ∈ l.map (fun s => [V.str s]), ∀ x ∈ e, x.flat = true := fun e he x hx => by
 obtain ⟨r, _, rfl⟩ := List.mem_map.1 he
 rw [List.mem_singleton] at hx; rw [hx]; rfl
theorem frM (L : List Msg) : ∀ e ∈ L.map Msg.V, ∀ x ∈ e, x.flat = true := fun e he x hx => by
 obtain ⟨r, _, rfl⟩ := List.mem_map.1 he
 simp only [Msg.V, List.mem_cons, List.not_mem_nil, or_false] at hx
 rcases hx with rfl | rfl | rfl | rfl | rfl | rfl | rfl <;> rfl
def mkG {α : Type} (f : α → List V) (z : List V) (L : List α) (i : Nat) : List (List V) := (L.take i).map f ++ List.replicate (L.length - i) z
theorem mkG_zero {α : Type} (f : α → List V) (z : List V) (L : List α) : mkG f z L 0 = List.replicate L.length z := by simp [mkG]
theorem mkG_full {α : Type} (f : α → List V) (z : List V) (L : List α) : mkG f z L L.length = L.map f := by simp [mkG]
theorem mkG_get {α : Type} (f : α → List V) (z : List V) {L : List α} {i : Nat} (h : i < L.length) : (mkG f z L i)[0 + i]? = some z := by
 have e : ((L.take i).map f).length = i := by simp; omega
 unfold mkG
 rw [Nat.zero_add, List.getElem?_append_right (by omega), e, Nat.sub_self, List.getElem?_replicate, if_pos (by omega)]
theorem mkG_set {α : Type} (f : α → List V) (z : List V) (d : α) {L : List α} {i : Nat} (h : i < L.length) : (mkG f z L i).set (0 + i) (f (L.getD i d)) = mkG f z L (i + 1) := by
 have e : ((L.take i).map f).length = i := by simp; omega
 unfold mkG
 rw [Nat.zero_add, List.set_append_right _ _ (by omega), e, Nat.sub_self]
 have e2 : L.length - i = (L.length - (i + 1)) + 1 := by omega
 rw [e2, List.replicate_succ, List.set_cons_zero]
 have e3 : L.take (i + 1) = L.take i ++ [L.getD i d] := by
  rw [List.take_add_one]; simp [h]
 rw [e3, List.map_append, List.append_assoc]
 rfl
theorem s56 (m : Msg) (k : Int) (hk : 0 ≤ k ∧ k ≤ 1048576) (hm : m.dg.size ≤ 9223372036854775807 ∧ m.bd.size ≤ 9223372036854775807 ∧ m.mc.size ≤ 9223372036854775807) : ∃ x : Int, (-1 ≤ x ∧ x ≤ k) ∧ Pure En 56 [.agg m.T, .one (.int .i64 k)] [.one (.int .i64 x)] := by
 obtain ⟨hm1, hm2, hm3⟩ := hm
 refine Pure.of_evX (st := []) Tryz.func56 rfl kb ?_
 refine A4 ?_
 refine A5 ?_
 refine br ?_ ?_ <;> intro h2_1
 ·first | exact ⟨-1, by omega, D0 rfl rfl⟩
 ·refine A4 ?_
  refine A5 ?_
  refine br ?_ ?_ <;> intro h5_1
  ·first | exact ⟨-1, by omega, D0 rfl rfl⟩
  ·refine A4 ?_
   refine A5 ?_
   refine br ?_ ?_ <;> intro h8_1
   ·first | exact ⟨-1, by omega, D0 rfl rfl⟩
   ·exact ⟨k - (m.dg.size : Int) - (m.bd.size : Int) - (m.mc.size : Int), by omega, D0 rfl rfl⟩
theorem s13 (nn : Bool) (L : List Msg) (k : Int) (hk : 0 ≤ k ∧ k ≤ 1048576) (hm : L.length ≤ 9223372036854775807) (hs : ∀ i, i < L.length → (L.getD i Msg0).dg.size ≤ 9223372036854775807 ∧ (L.getD i Msg0).bd.size ≤ 9223372036854775807 ∧ (L.getD i Msg0).mc.size ≤ 9223372036854775807) : ∃ x : Int, ((-1 ≤ x ∧ x ≤ k) ∧ (0 ≤ x → (L.length : Int) ≤ k)) ∧ Pure En 13 [.one (.sl nn (L.map Msg.T)), .one (.int .i64 k)] [.one (.int .i64 x)] := by
 have hl : (L.map Msg.T).length = L.length := List.length_map ..
 refine Pure.of_evX (st := []) Tryz.func13 rfl kb ?_
 refine A5 ?_
 refine br ?_ ?_ <;> intro h2_1
 ·exact ⟨-1, ⟨by omega, fun h => by omega⟩, D0 rfl rfl⟩
 ·refine I3 (fun (a : Nat × Int) => [.sl false nn (L.map Msg.T), .int .i64 a.2, .unk, .unk, .unk, .int .i64 a.1]) (fun (a : Nat × Int) => a.1 ≤ L.length ∧ (0 ≤ a.2 ∧ a.2 ≤ k) ∧ (L.length : Int) ≤ k) (fun (a : Nat × Int) => L.length - a.1) (0, k - (L.map Msg.T).length) ?_ ?_ ?_
  ·exact ⟨Nat.zero_le _, by dsimp only; omega, by omega⟩
  ·(repeat first | exact LE.nil _ | refine LE.unk _ _ ?_ | refine LE.eq _ _ _ rfl ?_)
  intro ⟨i, a1⟩ hI ih
  dsimp only at hI ⊢
  refine A6 (st := []) ?_
  refine br ?_ ?_ <;> intro h5_3
  ·(refine A5 (D5 (by first | rfl | assumption | (exact B5 Msg.T Msg0 (by omega))) rfl ?_))
   refine eclX (s56 (L.getD i Msg0) a1 (by omega) (hs i (by omega))) rfl j2 ?_
   rintro y h7_5
   try dsimp only at h7_5
   refine br ?_ ?_ <;> intro h8_1
   ·exact ⟨-1, ⟨by omega, fun h => by omega⟩, D0 rfl rfl⟩
   ·refine A5 ?_
    exact wlN (ih (i + 1, y) ⟨by dsimp only; omega, by dsimp only; omega, by omega⟩ (by dsimp only; omega)) (by (repeat first | exact LE.nil _ | refine LE.unk _ _ ?_ | refine LE.eq _ _ _ rfl ?_))
  ·exact ⟨a1, ⟨by omega, fun h => by omega⟩, D0 rfl rfl⟩
theorem s61 (m : Msg) : Pure En 61 [.agg m.T] [.agg m.T] := by
 refine Pure.of_ev (st := []) Tryz.func61 rfl kb ?_
 refine A4 ?_
 (apply est (u := .int _ _) j3; exact Q0; rfl; exact j4; exact kb; rfl)
 refine A4 ?_
 (apply est (u := .int _ _) j3; exact Q0; rfl; exact j4; exact kb; rfl)
 refine A4 ?_
 (apply est (u := .int _ _) j3; exact Q0; rfl; exact j4; exact kb; rfl)
 refine A4 ?_
 (apply est (u := .int _ _) j3; exact Q0; rfl; exact j4; exact kb; rfl)
 refine A4 ?_
 (apply est (u := .str _) j3; exact Q0; rfl; exact j4; exact kb; rfl)
 refine A4 ?_
 (apply est (u := .str _) j3; exact Q0; rfl; exact j4; exact kb; rfl)
 refine A4 ?_
 (apply est (u := .str _) j3; exact Q0; rfl; exact j4; exact kb; rfl)
 (apply C2 (vs := [.int _ _, .int _ _, .int _ _, .int _ _, .str _, .str _, .str _]) j2; exact Q0; rfl; rfl; exact kb; rfl)
 (apply est (u := .agg [.int _ _, .int _ _, .int _ _, .int _ _, .str _, .str _, .str _]) j3; exact Q0; rfl; exact j4; exact kb; rfl)
 exact D0 (A0 (A3 rfl (by exact Q0) j2 kb rfl) A1) rfl
theorem s66 (m : Msg) : Pure En 66 [.agg m.T, .agg m.T] [.one (.bool true)] := by
 refine Pure.of_ev (st := []) Tryz.func66 rfl kb ?_
 refine A4 ?_
 refine A4 ?_
 refine br ?_ ?_ <;> intro h1_4
 ·first | exact D0 rfl rfl | exact absurd rfl h1_4 | exact absurd rfl h3_4 | exact absurd rfl h5_4 | exact absurd rfl h7_4 | exact absurd rfl h9_4 | exact absurd rfl h11_4 | exact absurd rfl h13_4
 ·refine A4 ?_
  refine A4 ?_
  refine br ?_ ?_ <;> intro h3_4
  ·first | exact D0 rfl rfl | exact absurd rfl h1_4 | exact absurd rfl h3_4 | exact absurd rfl h5_4 | exact absurd rfl h7_4 | exact absurd rfl h9_4 | exact absurd rfl h11_4 | exact absurd rfl h13_4
  ·refine A4 ?_
   refine A4 ?_
   refine br ?_ ?_ <;> intro h5_4
   ·first | exact D0 rfl rfl | exact absurd rfl h1_4 | exact absurd rfl h3_4 | exact absurd rfl h5_4 | exact absurd rfl h7_4 | exact absurd rfl h9_4 | exact absurd rfl h11_4 | exact absurd rfl h13_4
   ·refine A4 ?_
    refine A4 ?_
    refine br ?_ ?_ <;> intro h7_4
    ·first | exact D0 rfl rfl | exact absurd rfl h1_4 | exact absurd rfl h3_4 | exact absurd rfl h5_4 | exact absurd rfl h7_4 | exact absurd rfl h9_4 | exact absurd rfl h11_4 | exact absurd rfl h13_4
    ·refine A4 ?_
     refine A4 ?_
     refine br ?_ ?_ <;> intro h9_4
     ·first | exact D0 rfl rfl | exact absurd rfl h1_4 | exact absurd rfl h3_4 | exact absurd rfl h5_4 | exact absurd rfl h7_4 | exact absurd rfl h9_4 | exact absurd rfl h11_4 | exact absurd rfl h13_4
     ·refine A4 ?_
      refine A4 ?_
      refine br ?_ ?_ <;> intro h11_4
      ·first | exact D0 rfl rfl | exact absurd rfl h1_4 | exact absurd rfl h3_4 | exact absurd rfl h5_4 | exact absurd rfl h7_4 | exact absurd rfl h9_4 | exact absurd rfl h11_4 | exact absurd rfl h13_4
      ·refine A4 ?_
       refine A4 ?_
       refine br ?_ ?_ <;> intro h13_4
       ·first | exact D0 rfl rfl | exact absurd rfl h1_4 | exact absurd rfl h3_4 | exact absurd rfl h5_4 | exact absurd rfl h7_4 | exact absurd rfl h9_4 | exact absurd rfl h11_4 | exact absurd rfl h13_4
       ·first | exact D0 rfl rfl | exact absurd rfl h1_4 | exact absurd rfl h3_4 | exact absurd rfl h5_4 | exact absurd rfl h7_4 | exact absurd rfl h9_4 | exact absurd rfl h11_4 | exact absurd rfl h13_4
theorem s18 (n1 n2 : Bool) (L : List Msg) (hL : L.length ≤ 1048577) : Pure En 18 [.one (.sl n1 (L.map Msg.T)), .one (.sl n2 (L.map Msg.T))] [.one (.bool true)] := by
 have hl : (L.map Msg.T).length = L.length := List.length_map ..
 refine Pure.of_ev (st := []) Tryz.func18 rfl kb ?_
 refine br ?_ ?_ <;> intro h1_4
 ·first | exact D0 rfl rfl | exact absurd rfl h1_4
 ·refine I3 (fun (i : Nat) => [.sl false n1 (L.map Msg.T), .sl false n2 (L.map Msg.T), .unk, .unk, .unk, .int .i64 i]) (fun (i : Nat) => i ≤ L.length) (fun (i : Nat) => L.length - i) 0 ?_ ?_ ?_
  ·exact Nat.zero_le _
  ·(repeat first | exact LE.nil _ | refine LE.unk _ _ ?_ | refine LE.eq _ _ _ rfl ?_)
  intro i hI ih
  refine A6 (st := []) ?_
  refine br ?_ ?_ <;> intro h4_3
  ·(refine A5 (D5 (by first | rfl | assumption | (exact B5 Msg.T Msg0 (by omega))) rfl ?_))
   (refine A5 (D5 (by first | rfl | assumption | (exact B5 Msg.T Msg0 (by omega))) rfl ?_))
   refine B7 (s66 (L.getD i Msg0)) rfl rfl rfl ?_
   refine A5 ?_
   exact wlN (ih (i + 1) (by omega) (by omega)) (by (repeat first | exact LE.nil _ | refine LE.unk _ _ ?_ | refine LE.eq _ _ _ rfl ?_))
  ·first | exact D0 rfl rfl | exact absurd rfl h1_4
theorem s17 (n1 n2 : Bool) (L : List ByteArray) (hL : L.length ≤ 1048577) : Pure En 17 [.one (.sl n1 (L.map tT)), .one (.sl n2 (L.map tT))] [.one (.bool true)] := by
 have hl : (L.map tT).length = L.length := List.length_map ..
 refine Pure.of_ev (st := []) Tryz.func17 rfl kb ?_
 refine br ?_ ?_ <;> intro h1_4
 ·first | exact D0 rfl rfl | exact absurd rfl h1_4 | exact absurd rfl h6_8
 ·refine I3 (fun (i : Nat) => [.sl false n1 (L.map tT), .sl false n2 (L.map tT), .unk, .unk, .unk, .int .i64 i]) (fun (i : Nat) => i ≤ L.length) (fun (i : Nat) => L.length - i) 0 ?_ ?_ ?_
  ·exact Nat.zero_le _
  ·(repeat first | exact LE.nil _ | refine LE.unk _ _ ?_ | refine LE.eq _ _ _ rfl ?_)
  intro i hI ih
  refine A6 (st := []) ?_
  refine br ?_ ?_ <;> intro h4_3
  ·(refine A5 (D5 (by first | rfl | assumption | (exact B5 tT ⟨#[]⟩ (by omega))) rfl ?_))
   (refine A5 (D5 (by first | rfl | assumption | (exact B5 tT ⟨#[]⟩ (by omega))) rfl ?_))
   refine br ?_ ?_ <;> intro h6_8
   ·first | exact D0 rfl rfl | exact absurd rfl h1_4 | exact absurd rfl h6_8
   ·refine A5 ?_
    exact wlN (ih (i + 1) (by omega) (by omega)) (by (repeat first | exact LE.nil _ | refine LE.unk _ _ ?_ | refine LE.eq _ _ _ rfl ?_))
  ·first | exact D0 rfl rfl | exact absurd rfl h1_4 | exact absurd rfl h6_8
theorem o15 (nn : Bool) (L : List Msg) (hL : L.length ≤ 1048576) {n : Nat} : V.Open En 15 ([A.one (.sl nn (L.map Msg.T))].map (A.toV false)) (fun _ => none) n (.view n 0 L.length) [(n, some ⟨L.map Msg.V, 7, 37⟩)] (n + 1) := by
 have hl : (L.map Msg.T).length = L.length := List.length_map ..
 refine V.Open.of_ev (st := []) Tryz.func15 rfl kb ?_
 refine emk (s' := 80) j6 kz ?_ ?_ ?_
 ·exact D9
 ·exact D9
 refine A7 (fun (i : Nat) => [.sl false nn (L.map Msg.T), .unk, .unk, .view n 0 (L.map Msg.T).length, .int .i64 i]) (fun (i : Nat) => hp [(n, ⟨mkG Msg.V Msg0.V L i, 7, 37⟩)]) (fun (i : Nat) => n + 1) (fun (i : Nat) => i ≤ L.length) (fun (i : Nat) => L.length - i) 0 ?_ ?_ ?_ ?_ ?_
 ·exact Nat.zero_le _
 ·(repeat first | exact LE.nil _ | refine LE.unk _ _ ?_ | refine LE.eq _ _ _ rfl ?_)
 ·(repeat first | exact B4 | (refine B6 ?_ ?_; (first | exact Q0 | ((simp (disch := omega) only [↓app0, ↓appC, ↓updS, ↓updN, ↓hpS, ↓hpN]); exact congrArg (fun z => some (Blk.mk z 7 37)) (by rw [mkG_zero, ← hl]; rfl)))))
 ·exact Nat.le_refl _
 intro i hI ih
 refine A6 (st := []) ?_
 refine br ?_ ?_ <;> intro h3_3
 ·(refine A5 (D5 (by first | rfl | assumption | (exact B5 Msg.T Msg0 (by omega))) rfl ?_))
  refine B7 (s61 (L.getD i Msg0)) rfl rfl rfl ?_
  (refine C8 (by exact Q0) ⟨rfl, A5 ?_⟩)
  (apply est j3; exact Q0; exact mkG_get Msg.V Msg0.V (by omega); exact j4; exact kb; rfl)
  refine A5 ?_
  exact C6 (ih (i + 1) (by omega) (by omega)) (by (repeat first | exact LE.nil _ | refine LE.unk _ _ ?_ | refine LE.eq _ _ _ rfl ?_)) (by (repeat first | exact B4 | (refine B6 ?_ ?_; ((simp (disch := omega) only [↓app0, ↓appC, ↓updS, ↓updN, ↓hpS, ↓hpN]); exact congrArg (fun z => some (Blk.mk z 7 37)) (mkG_set Msg.V Msg0.V Msg0 (by omega)))))) (Nat.le_refl _)
 ·obtain rfl : i = L.length := by omega
  exact H9 rfl (congrArg (V.view n 0) hl) (U3 (by
   intro j hj
   simp only [List.map_cons, List.map_nil, List.mem_cons, List.not_mem_nil, or_false] at hj
   rcases hj with rfl <;> (simp (disch := omega) only [↓app0, ↓appC, ↓updS, ↓updN, ↓hpS, ↓hpN]) <;> first | rfl | (exact congrArg (fun z => some (Blk.mk z 7 37)) (mkG_full Msg.V Msg0.V L))) (fun j hj hn => by
   simp only [List.map_cons, List.map_nil, List.mem_cons, List.not_mem_nil, or_false, not_or] at hn
   (simp (disch := omega) only [↓app0, ↓appC, ↓updS, ↓updN, ↓hpS, ↓hpN]) <;> rfl)) (Nat.le_refl _)
open Go.V
set_option linter.unusedVariables false
set_option linter.unusedSimpArgs false
set_option maxRecDepth 20000
set_option maxHeartbeats 4000000
theorem qd {a : Int} (h0 : 0 < a) (h1 : a ≤ 1099511627776) : 0 ≤ IntKind.i64.wrap (a.tdiv 10) ∧ IntKind.i64.wrap (a.tdiv 10) < a := by
 rw [Int.tdiv_eq_ediv_of_nonneg (by omega), wrap_i64 (by omega) (by omega)]; omega
theorem rd {a : Int} (h0 : 0 < a) (h1 : a ≤ 1099511627776) : 0 ≤ a.tmod 10 ∧ a.tmod 10 ≤ 9 := by
 rw [Int.tmod_eq_emod_of_nonneg (by omega)]; omega
theorem s67 (k : Int) (hk : 0 ≤ k ∧ k ≤ 1099511627776) : ∃ s : ByteArray, True ∧ Pure En 67 [.one (.int .i64 k)] [.one (.str s)] := by
 refine Pure.of_evX (st := []) Tryz.func67 rfl kb ?_
 refine br ?_ ?_ <;> intro h1_1
 ·first | exact ⟨_, trivial, D0 rfl rfl⟩
 ·refine A7 (fun (a : Int × ByteArray × Nat) => [.int .i64 a.1, .unk, .unk, .str a.2.1]) (fun (a : Int × ByteArray × Nat) => hp []) (fun (a : Int × ByteArray × Nat) => a.2.2) (fun (a : Int × ByteArray × Nat) => 0 ≤ a.1 ∧ (a.2.1.size : Int) + a.1 ≤ k) (fun (a : Int × ByteArray × Nat) => a.1.toNat) (k, ⟨#[]⟩, 0) ?_ ?_ ?_ ?_ ?_
  ·exact ⟨by dsimp only; omega, by show ((0 : Nat) : Int) + k ≤ k; omega⟩
  ·(repeat first | exact LE.nil _ | refine LE.unk _ _ ?_ | refine LE.eq _ _ _ rfl ?_)
  ·exact B4
  ·exact Nat.le_refl _
  intro ⟨x, s, m⟩ hI ih
  dsimp only at hI ⊢
  have hq := fun h0 => qd (a := x) h0 (by omega)
  have hr := fun h0 => rd (a := x) h0 (by omega)
  refine A6 (st := []) ?_
  refine br ?_ ?_ <;> intro h4_1
  ·refine sd (by exact Q28) ?_
   refine sd ⟨by (first | omega | (have hr1 := hr (by omega); omega)), by (first | omega | (have hr1 := hr (by omega); omega))⟩ ?_
   refine D3 (es := [[.int _ _]]) j4 kz kb rfl rfl ?_
   (apply esg j4; (apply F6 rfl; exact Q0; (first | exact Nat.le_refl _ | omega | (simp; omega)); rfl); (intro s e; cases e); exact (show _ = List.map (fun b => [V.int .u8 b]) [_] from rfl))
   refine sd (by exact Q28) ?_
   refine sd (by exact Q28) ?_
   have hq1 := hq (by omega)
   exact C6 (ih (IntKind.i64.wrap (x.tdiv 10), Go.V.strOw [IntKind.u8.wrap (48 + x.tmod 10)] ++ s, m + 1) ⟨by dsimp only; omega, by dsimp only; rw [ByteArray.size_append, B8]; show (((1 + s.size : Nat)) : Int) + _ ≤ _; omega⟩ (by dsimp only; omega)) (by (repeat first | exact LE.nil _ | refine LE.unk _ _ ?_ | refine LE.eq _ _ _ rfl ?_)) B4 (Nat.le_refl _)
  ·refine sd (by exact Q28) ?_
   first | exact ⟨_, trivial, D0 rfl rfl⟩
theorem mt_ex (k : Int) : ∃ s : ByteArray, 0 ≤ k ∧ k ≤ 1099511627776 → Pure En 67 [.one (.int .i64 k)] [.one (.str s)] := by
 by_cases h : 0 ≤ k ∧ k ≤ 1099511627776
 ·obtain ⟨s, _, h2⟩ := s67 k h; exact ⟨s, fun _ => h2⟩
 ·exact ⟨⟨#[]⟩, fun h' => absurd h' h⟩
noncomputable def Mt (k : Int) : ByteArray := Classical.choose (mt_ex k)
theorem q67 (k : Int) (h : 0 ≤ k ∧ k ≤ 1099511627776) : Pure En 67 [.one (.int .i64 k)] [.one (.str (Mt k))] := Classical.choose_spec (mt_ex k) h
noncomputable def mMy (y : Int) : Msg := ⟨y, y + 1, y + 1 + 1, y + 1 + 1 + 1, Mt (y + 1 + 1 + 1 + 1), Mt (y + 1 + 1 + 1 + 1 + 1), Mt (y + 1 + 1 + 1 + 1 + 1 + 1)⟩
noncomputable def MM (k : Int) (m : Nat) : List Msg := (List.range m).map fun (j : Nat) => mMy (k + 7 * (j : Int))
noncomputable def MS (k : Int) (m : Nat) : List ByteArray := (List.range m).map fun (j : Nat) => Mt (k + (j : Int))
theorem MM_len (k : Int) (m : Nat) : (MM k m).length = m := by simp [MM]
theorem U8 (k : Int) (m : Nat) : (MS k m).length = m := by simp [MS]
theorem MM_get {k : Int} {m i : Nat} (h : i < m) : (MM k m).getD i Msg0 = mMy (k + 7 * (i : Int)) := by simp [MM, List.getD_eq_getElem?_getD, h]
theorem MS_get {k : Int} {m i : Nat} (h : i < m) : (MS k m).getD i ⟨#[]⟩ = Mt (k + (i : Int)) := by simp [MS, List.getD_eq_getElem?_getD, h]
def mix {α : Type} (A L : List α) (i : Nat) : List α := A.take i ++ L.drop i
theorem mix_zero {α : Type} (A L : List α) : mix A L 0 = L := by simp [mix]
theorem mix_full {α : Type} {A L : List α} (h : A.length = L.length) : mix A L L.length = A := by
 unfold mix; rw [List.drop_length, List.append_nil, ← h, List.take_length]
theorem mix_len {α : Type} {A L : List α} {i : Nat} (h : A.length = L.length) (hi : i ≤ L.length) : (mix A L i).length = L.length := by
 simp [mix]; omega
theorem mix_set {α : Type} (f : α → List V) (d : α) {A L : List α} {i : Nat} {z : List V} (h : A.length = L.length) (hi : i < L.length) (hz : f (A.getD i d) = z) : ((mix A L i).map f).set (0 + i) z = (mix A L (i + 1)).map f := by
 subst hz
 have e1 : (A.take i).length = i := by simp; omega
 have e2 : L.drop i = L.getD i d :: L.drop (i + 1) := by
  rw [List.getD_eq_getElem?_getD, List.getElem?_eq_getElem hi, Option.getD_some, List.drop_eq_getElem_cons hi]
 have e3 : A.take (i + 1) = A.take i ++ [A.getD i d] := by
  rw [List.take_add_one]; simp [show i < A.length by omega]
 have e4 : ((A.take i).map f).length = i := by rw [List.length_map, e1]
 unfold mix
 rw [e2, List.map_append, Nat.zero_add, List.set_append_right _ _ (by omega), e4, Nat.sub_self, e3, List.map_cons, List.set_cons_zero, List.map_append, List.map_append, List.append_assoc]
 rfl
theorem getM {α : Type} (f : α → List V) (d : α) {X : List α} {i : Nat} (h : i < X.length) : (X.map f)[0 + i]? = some (f (X.getD i d)) := by
 rw [Nat.zero_add]; exact B5 f d h
theorem gsS {es : List (List V)} {i : Nat} {x : List V} (h : i < es.length) : (es.set (0 + i) x)[0 + i]? = some x := by
 rw [Nat.zero_add]; exact List.getElem?_set_self h
theorem o19 (L : List Msg) (k : Int) (hk : 0 ≤ k ∧ k ≤ 100000000) (hL : L.length ≤ 1048577) {id : Nat} {h : Heap} {n : Nat} (hid : id < n) (k1 : h id = some ⟨L.map Msg.V, 7, 37⟩) :
  V.Open En 19 [.view id 0 L.length, .int .i64 k] h n (.int .i64 (k + 7 * (L.length : Int))) [(id, some ⟨(MM k L.length).map Msg.V, 7, 37⟩)] n := by
 have hMl : (MM k L.length).length = L.length := MM_len k L.length
 refine V.Open.fresh rfl (Nat.le_refl _) fun hz => ?_
 refine V.Open.of_ev (st := []) Tryz.func19 rfl kb ?_
 refine A7 (fun (a : Nat × Int) => [.view id 0 L.length, .int .i64 a.2, .unk, .unk, .unk, .int .i64 a.1]) (fun (a : Nat × Int) => app [(id, some ⟨(mix (MM k L.length) L a.1).map Msg.V, 7, 37⟩)] h) (fun (a : Nat × Int) => n) (fun (a : Nat × Int) => a.1 ≤ L.length ∧ a.2 = k + 7 * (a.1 : Int)) (fun (a : Nat × Int) => L.length - a.1) (0, k) ?_ ?_ ?_ ?_ ?_
 ·exact ⟨Nat.zero_le _, by dsimp only; omega⟩
 ·(repeat first | exact LE.nil _ | refine LE.unk _ _ ?_ | refine LE.eq _ _ _ rfl ?_)
 ·dsimp only
  refine E1 (n := n) hz (fun jx hj => ?_) (fun jx hl hn => ?_)
  ·simp only [List.map_cons, List.map_nil, List.mem_cons, List.not_mem_nil, or_false] at hj
   rcases hj with rfl <;> (simp (disch := omega) only [↓app0, ↓appC, ↓updS, ↓updN, ↓hpS, ↓hpN]) <;> first | rfl | assumption | exact k1.trans (by rw [mix_zero])
  ·simp only [List.map_cons, List.map_nil, List.mem_cons, List.not_mem_nil, or_false, not_or] at hn
   (simp (disch := omega) only [↓app0, ↓appC, ↓updS, ↓updN, ↓hpS, ↓hpN])
 ·exact Nat.le_refl _
 intro ⟨i, y⟩ hI ih
 dsimp only at hI ⊢
 have hml := mix_len (i := i) hMl hI.1
 have hx : i < L.length → (MM k L.length).getD i Msg0 = mMy y := fun h => by rw [MM_get h, hI.2]
 refine A6 (st := []) ?_
 refine br ?_ ?_ <;> intro h2_3
 ·(refine C8 (by exact Q0) ⟨rfl, A5 ?_⟩)
  (apply est (u := .int _ _) j3; exact Q0; exact getM Msg.V Msg0 (by rw [hml]; omega); exact j4; exact kb; rfl)
  refine A5 ?_
  (refine C8 (by exact Q0) ⟨rfl, A5 ?_⟩)
  (apply est (u := .int _ _) j3; exact Q0; exact gsS (by simp only [List.length_set, List.length_map]; rw [hml]; omega); exact j4; exact kb; rfl)
  refine A5 ?_
  (refine C8 (by exact Q0) ⟨rfl, A5 ?_⟩)
  (apply est (u := .int _ _) j3; exact Q0; exact gsS (by simp only [List.length_set, List.length_map]; rw [hml]; omega); exact j4; exact kb; rfl)
  refine A5 ?_
  (refine C8 (by exact Q0) ⟨rfl, A5 ?_⟩)
  (apply est (u := .int _ _) j3; exact Q0; exact gsS (by simp only [List.length_set, List.length_map]; rw [hml]; omega); exact j4; exact kb; rfl)
  refine A5 ?_
  refine B7 (q67 _ (by omega)) rfl rfl rfl ?_
  (refine C8 (by exact Q0) ⟨rfl, A5 ?_⟩)
  (apply est (u := .str _) j3; exact Q0; exact gsS (by simp only [List.length_set, List.length_map]; rw [hml]; omega); exact j4; exact kb; rfl)
  refine A5 ?_
  refine B7 (q67 _ (by omega)) rfl rfl rfl ?_
  (refine C8 (by exact Q0) ⟨rfl, A5 ?_⟩)
  (apply est (u := .str _) j3; exact Q0; exact gsS (by simp only [List.length_set, List.length_map]; rw [hml]; omega); exact j4; exact kb; rfl)
  refine A5 ?_
  refine B7 (q67 _ (by omega)) rfl rfl rfl ?_
  (refine C8 (by exact Q0) ⟨rfl, A5 ?_⟩)
  (apply est (u := .str _) j3; exact Q0; exact gsS (by simp only [List.length_set, List.length_map]; rw [hml]; omega); exact j4; exact kb; rfl)
  refine A5 ?_
  refine A5 ?_
  exact C6 (ih (i + 1, y + 1 + 1 + 1 + 1 + 1 + 1 + 1) ⟨by dsimp only; omega, by dsimp only; omega⟩ (by dsimp only; omega)) (by (repeat first | exact LE.nil _ | refine LE.unk _ _ ?_ | refine LE.eq _ _ _ rfl ?_)) (by
   dsimp only
   refine E1 (n := n) hz (fun jx hj => ?_) (fun jx hl hn => ?_)
   ·simp only [List.map_cons, List.map_nil, List.mem_cons, List.not_mem_nil, or_false] at hj
    rcases hj with rfl <;> (simp (disch := omega) only [↓app0, ↓appC, ↓updS, ↓updN, ↓hpS, ↓hpN]) <;> first | rfl | assumption | (refine congrArg (fun z => some (Blk.mk z 7 37)) ?_; (try simp only [List.set_set]); exact mix_set Msg.V Msg0 hMl (by omega) (by rw [hx (by omega)]; rfl))
   ·simp only [List.map_cons, List.map_nil, List.mem_cons, List.not_mem_nil, or_false, not_or] at hn
    (simp (disch := omega) only [↓app0, ↓appC, ↓updS, ↓updN, ↓hpS, ↓hpN])) (Nat.le_refl _)
 ·obtain rfl : i = L.length := by omega
  exact H9 rfl (congrArg (V.int .i64) hI.2) (U3 (by
   intro j hj
   simp only [List.map_cons, List.map_nil, List.mem_cons, List.not_mem_nil, or_false] at hj
   rcases hj with rfl <;> (simp (disch := omega) only [↓app0, ↓appC, ↓updS, ↓updN]) <;> first | rfl | (exact congrArg (fun z => some (Blk.mk z 7 37)) (congrArg (List.map Msg.V) (mix_full hMl)))) (fun j hj hn => by
   simp only [List.map_cons, List.map_nil, List.mem_cons, List.not_mem_nil, or_false, not_or] at hn
   simp (disch := omega) only [↓app0, ↓appC, ↓updS, ↓updN])) (Nat.le_refl _)
theorem o20 (L : List ByteArray) (k : Int) (hk : 0 ≤ k ∧ k ≤ 100000000) (hL : L.length ≤ 1048577) {id : Nat} {h : Heap} {n : Nat} (hid : id < n) (k1 : h id = some ⟨L.map tV, 1, 9⟩) :
  V.Open En 20 [.view id 0 L.length, .int .i64 k] h n (.int .i64 (k + (L.length : Int))) [(id, some ⟨(MS k L.length).map tV, 1, 9⟩)] n := by
 have hMl : (MS k L.length).length = L.length := U8 k L.length
 refine V.Open.fresh rfl (Nat.le_refl _) fun hz => ?_
 refine V.Open.of_ev (st := []) Tryz.func20 rfl kb ?_
 refine A7 (fun (a : Nat × Int) => [.view id 0 L.length, .int .i64 a.2, .unk, .unk, .unk, .int .i64 a.1]) (fun (a : Nat × Int) => app [(id, some ⟨(mix (MS k L.length) L a.1).map tV, 1, 9⟩)] h) (fun (a : Nat × Int) => n) (fun (a : Nat × Int) => a.1 ≤ L.length ∧ a.2 = k + (a.1 : Int)) (fun (a : Nat × Int) => L.length - a.1) (0, k) ?_ ?_ ?_ ?_ ?_
 ·exact ⟨Nat.zero_le _, by dsimp only; omega⟩
 ·(repeat first | exact LE.nil _ | refine LE.unk _ _ ?_ | refine LE.eq _ _ _ rfl ?_)
 ·dsimp only
  refine E1 (n := n) hz (fun jx hj => ?_) (fun jx hl hn => ?_)
  ·simp only [List.map_cons, List.map_nil, List.mem_cons, List.not_mem_nil, or_false] at hj
   rcases hj with rfl <;> (simp (disch := omega) only [↓app0, ↓appC, ↓updS, ↓updN, ↓hpS, ↓hpN]) <;> first | rfl | assumption | exact k1.trans (by rw [mix_zero])
  ·simp only [List.map_cons, List.map_nil, List.mem_cons, List.not_mem_nil, or_false, not_or] at hn
   (simp (disch := omega) only [↓app0, ↓appC, ↓updS, ↓updN, ↓hpS, ↓hpN])
 ·exact Nat.le_refl _
 intro ⟨i, y⟩ hI ih
 dsimp only at hI ⊢
 have hml := mix_len (i := i) hMl hI.1
 have hx : i < L.length → (MS k L.length).getD i ⟨#[]⟩ = Mt y := fun h => by rw [MS_get h, hI.2]
 refine A6 (st := []) ?_
 refine br ?_ ?_ <;> intro h2_3
 ·refine B7 (q67 _ (by omega)) rfl rfl rfl ?_
  (refine C8 (by exact Q0) ⟨rfl, A5 ?_⟩)
  (apply est (u := .str _) j3; exact Q0; exact getM tV ⟨#[]⟩ (by rw [hml]; omega); exact j4; exact kb; rfl)
  refine A5 ?_
  refine A5 ?_
  exact C6 (ih (i + 1, y + 1) ⟨by dsimp only; omega, by dsimp only; omega⟩ (by dsimp only; omega)) (by (repeat first | exact LE.nil _ | refine LE.unk _ _ ?_ | refine LE.eq _ _ _ rfl ?_)) (by
   dsimp only
   refine E1 (n := n) hz (fun jx hj => ?_) (fun jx hl hn => ?_)
   ·simp only [List.map_cons, List.map_nil, List.mem_cons, List.not_mem_nil, or_false] at hj
    rcases hj with rfl <;> (simp (disch := omega) only [↓app0, ↓appC, ↓updS, ↓updN, ↓hpS, ↓hpN]) <;> first | rfl | assumption | (refine congrArg (fun z => some (Blk.mk z 1 9)) ?_; (try simp only [List.set_set]); exact mix_set tV ⟨#[]⟩ hMl (by omega) (by rw [hx (by omega)]; rfl))
   ·simp only [List.map_cons, List.map_nil, List.mem_cons, List.not_mem_nil, or_false, not_or] at hn
    (simp (disch := omega) only [↓app0, ↓appC, ↓updS, ↓updN, ↓hpS, ↓hpN])) (Nat.le_refl _)
 ·obtain rfl : i = L.length := by omega
  exact H9 rfl (congrArg (V.int .i64) hI.2) (U3 (by
   intro j hj
   simp only [List.map_cons, List.map_nil, List.mem_cons, List.not_mem_nil, or_false] at hj
   rcases hj with rfl <;> (simp (disch := omega) only [↓app0, ↓appC, ↓updS, ↓updN]) <;> first | rfl | (exact congrArg (fun z => some (Blk.mk z 1 9)) (congrArg (List.map tV) (mix_full hMl)))) (fun j hj hn => by
   simp only [List.map_cons, List.map_nil, List.mem_cons, List.not_mem_nil, or_false, not_or] at hn
   simp (disch := omega) only [↓app0, ↓appC, ↓updS, ↓updN])) (Nat.le_refl _)
theorem s21 (nn : Bool) (k : Int) (m : Nat) (hk : 0 ≤ k ∧ k ≤ 100000000) (hm : m ≤ 1048577) : Pure En 21 [.one (.sl nn ((MS k m).map tT)), .one (.int .i64 k)] [.one (.int .i64 (k + (m : Int)))] := by
 have hl : ((MS k m).map tT).length = m := by rw [List.length_map, U8]
 refine Pure.of_ev (st := []) Tryz.func21 rfl kb ?_
 refine I3 (fun (a : Nat × Int) => [.sl false nn ((MS k m).map tT), .int .i64 a.2, .unk, .unk, .unk, .int .i64 a.1]) (fun (a : Nat × Int) => a.1 ≤ m ∧ a.2 = k + (a.1 : Int)) (fun (a : Nat × Int) => m - a.1) (0, k) ?_ ?_ ?_
 ·exact ⟨Nat.zero_le _, by dsimp only; omega⟩
 ·(repeat first | exact LE.nil _ | refine LE.unk _ _ ?_ | refine LE.eq _ _ _ rfl ?_)
 intro ⟨i, y⟩ hI ih
 dsimp only at hI ⊢
 have hx : i < m → ((MS k m).map tT)[i]? = some (tT (Mt y)) := fun h => by
  rw [B5 tT ⟨#[]⟩ (show i < (MS k m).length by rw [U8]; exact h), MS_get h, hI.2]
 refine A6 (st := []) ?_
 refine br ?_ ?_ <;> intro h2_3
 ·(refine A5 (D5 (by first | rfl | assumption | exact hx (by omega)) rfl ?_))
  refine B7 (q67 _ (by omega)) rfl rfl rfl ?_
  refine br (fun h => absurd h ((fun hh => hh rfl))) ?_
  intro h4_6
  refine A5 ?_
  refine A5 ?_
  exact wlN (ih (i + 1, y + 1) ⟨by dsimp only; omega, by dsimp only; omega⟩ (by dsimp only; omega)) (by (repeat first | exact LE.nil _ | refine LE.unk _ _ ?_ | refine LE.eq _ _ _ rfl ?_))
 ·obtain rfl : i = m := by omega
  exact fiE j2 (by rw [hI.2])
open Go Go.V
set_option linter.unusedVariables false
set_option linter.unusedSimpArgs false
theorem openSh {E : Env} {f : FuncId} {args : List V} {id len m : Nat} {es : List (List V)} {sz ty : Nat} {kc : IntKind} {cd : Int}
  (H : V.Open E f args (fun _ => none) 0 (.tup [.view id 0 len, .int kc cd]) [(id, some ⟨es, sz, ty⟩)] m)
  (hda : ∀ x ∈ args, x.data = true) (hes : ∀ e ∈ es, ∀ x ∈ e, x.data = true) (n : Nat) :
  V.Open E f args (fun _ => none) n (.tup [.view n 0 len, .int kc cd]) [(n, some ⟨es, sz, ty⟩)] (n + 1) := by
 unfold V.Open at H ⊢
 obtain ⟨⟨hcp, _⟩, H⟩ := H
 refine ⟨⟨hcp, Nat.le_succ n⟩, fun c vs hg hfr hal har => ?_⟩
 let c0 : Cx := { ρ := fun _ => none, I := c.I, B := c.B, w := c.w }
 have hg0 : V.Good E c0 (fun _ => none) := by
  refine ⟨fun _ _ h => (nomatch h), fun _ _ _ _ _ _ h => (nomatch h), hg.imm, fun _ _ _ h => (nomatch h), fun _ _ h => (nomatch h), hg.base, fun g cs hgc => ?_⟩
  have := hg.glob g cs hgc
  cases this with
  | iptr _ _ b off rd hI hrd' hsub => exact .iptr false cs g 0 rd hI hrd' hsub
 refine Calls.mono (H c0 vs hg0 (fun _ _ => rfl) hal (fun i x u h1 h2 => VR.data (hda x (List.mem_of_getElem? h1)) (har i x u h1 h2) (fun _ h => h) j2)) ?_
 rintro e w' ⟨u, c', rfl, rfl, hx2, hg2, hd2, hv2⟩
 have hb0 : app [(id, some (⟨es, sz, ty⟩ : Blk))] (fun _ => none) id = some ⟨es, sz, ty⟩ := by
  rw [V.appC, V.app0]; exact V.upd_same _ _ _
 obtain ⟨p, hp, hpc, hpm⟩ := hg2.blk id _ hb0
 let c2 : Cx := { ρ := fun j => if j = n then some p else c.ρ j, I := c'.I, B := c'.B, w := c'.w }
 have hcn : c.ρ n = none := hfr n (Nat.le_refl n)
 have r1 : ∀ j q, c.ρ j = some q → c2.ρ j = some q := fun j q hq => by
  show (if j = n then some p else c.ρ j) = some q
  rw [if_neg (fun e => by rw [e, hcn] at hq; cases hq), hq]
 have vd : ∀ (x : V) (v : Value), x.data = true → VR c' x v → VR c2 x v := fun x v hx h => VR.data hx h (fun _ h => h) j2
 have hb2 : ∀ j b, app [(n, some (⟨es, sz, ty⟩ : Blk))] (fun _ => none) j = some b → j = n ∧ b = ⟨es, sz, ty⟩ := fun j b hb => by
  have hb : upd (fun _ => none) n (some (⟨es, sz, ty⟩ : Blk)) j = some b := hb
  by_cases hj : j = n
  ·subst hj; rw [upd_same] at hb; exact ⟨rfl, (Option.some.inj hb).symm⟩
  ·rw [upd_ne _ _ hj] at hb; cases hb
 have hpn : c2.ρ n = some p := if_pos rfl
 refine ⟨u, c2, rfl, rfl, ⟨hx2.B, r1, hx2.imm, hx2.keep, hx2.below⟩, ⟨fun j b hb => ?_, fun j j' b b' q q' hb hb' _ _ _ => (hb2 j b hb).1.trans (hb2 j' b' hb').1.symm, hg2.imm, fun j b q hb hq => ?_, fun j q hq => ?_, hg2.base, fun g cs hgc => ?_⟩, fun j hj => ?_, ?_⟩
 ·obtain ⟨rfl, rfl⟩ := hb2 j b hb
  refine ⟨p, hpn, fun hm => ?_, fun hm => ?_⟩
  ·obtain ⟨cells, fz, j2, j3, j4, j5, j6, j7, j8⟩ := hpc hm
   refine ⟨cells, fz, j2, j3, j4, j5, j6, j7, fun i k x hx => ?_⟩
   obtain ⟨w, m1, m2, m3⟩ := j8 i k x hx
   refine ⟨w, m1, vd x w ?_ m2, m3⟩
   unfold get2 at hx
   cases he : es[i]? with
   | none => simp [he] at hx
   | some e =>
    simp only [he, Option.bind_some] at hx
    exact hes e (List.mem_of_getElem? he) x (List.mem_of_getElem? hx)
  ·obtain ⟨en, j1, j2, j3⟩ := hpm hm
   refine ⟨en, j1, j2, fun i row hr => ?_⟩
   obtain ⟨e, k, x, m1, m2, m3, m4, m5⟩ := j3 i row hr
   have hfr := hes row (List.mem_of_getElem? hr)
   exact ⟨e, k, x, m1, m2, m3, vd k _ (hfr k (by rw [m2]; simp)) m4, vd x _ (hfr x (by rw [m2]; simp)) m5⟩
 ·obtain ⟨rfl, rfl⟩ := hb2 j b hb
  rw [hpn] at hq; obtain rfl := Option.some.inj hq
  exact hg2.sep id _ p hb0 hp
 ·have hq : (if j = n then some p else c.ρ j) = some q := hq
  by_cases hj : j = n
  ·rw [if_pos hj] at hq; obtain rfl := Option.some.inj hq
   exact hg2.own id p hp
  ·rw [if_neg hj] at hq
   have h1 := hg.own j q hq
   have h2 : c.w.heap.size ≤ c'.w.heap.size := hx2.below.size
   have h3 : c'.B = c.B := hx2.B
   exact ⟨by show c'.B ≤ q.b; rw [h3]; exact h1.1, Nat.lt_of_lt_of_le h1.2 h2⟩
 ·have := hg2.glob g cs hgc
  cases this with
  | iptr _ _ b off rd hI hrd' hsub => exact .iptr false cs g 0 rd hI hrd' hsub
 ·have hj : (if j = n then some p else c.ρ j) ≠ none := hj
  by_cases h : j = n
  ·exact .inr ⟨by omega, by omega⟩
  ·rw [if_neg h] at hj; exact .inl hj
 ·cases hv2 with
  | tup _ us hl h =>
   refine .tup _ us hl fun i x v h1 h2 => ?_
   match i with
   | 0 =>
    obtain rfl := Option.some.inj h1
    have h3 := h 0 _ v rfl h2
    cases h3 with
    | view _ _ _ q o cap hq ho hl hm =>
     rw [hp] at hq; obtain rfl := Option.some.inj hq
     exact .view n 0 len p o cap hpn ho hl hm
   | 1 =>
    obtain rfl := Option.some.inj h1
    exact vd _ v rfl (h 1 _ v rfl h2)
   | i + 2 => simp at h1
end Go.Proofs.YteifdelnahccjaaGreatDoor
