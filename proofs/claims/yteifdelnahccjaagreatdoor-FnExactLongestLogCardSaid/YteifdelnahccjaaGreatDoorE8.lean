import Derived.Test.YteifdelnahccjaaGreatDoorE7
namespace Go.Proofs.YteifdelnahccjaaGreatDoor
open Go.V
set_option linter.unusedVariables false
set_option linter.unusedSimpArgs false
set_option maxRecDepth 20000
set_option maxHeartbeats 4000000
noncomputable def bZ (p : ByteArray) : Bt := if bOK p then bX p else BtZ
noncomputable def btT (n : Int) (p : ByteArray) : Int := if bOK p ∧ (bX p).nl = false then tmX n (bX p).rs else 0
noncomputable instance dcBo (n : Int) (p : ByteArray) : Decidable (bodyOK rdM n p) := Classical.propDecidable _
noncomputable instance dcCt (n : Int) (c : Ct) : Decidable (nodes n ∧ ctOK mk bare rdM dgB n c) := Classical.propDecidable _
theorem bZ_y {p : ByteArray} (h : bOK p) : bZ p = bX p := if_pos h
theorem ct_iff {n : Int} {c : Ct} (hn : nodes n) : (∀ i, i < c.ps.length → arS n 2 c.vw c.sq c.ps i) ∧ ¬ (∃ x ∈ c.ps, x.dg ≠ dgB c.bd) ↔ ∀ i, i < c.ps.length → pOK mk bare dgB n c i := by
 constructor
 ·rintro ⟨h1, h2⟩ i hi
  obtain ⟨e1, e2, e3, ⟨_, e4⟩, e5⟩ := h1 i hi
  refine ⟨e1, e4, ?_, e2, e3, e5⟩
  refine Classical.byContradiction fun q => h2 ⟨c.ps.getD i Msg0, ?_, q⟩
  rw [show c.ps.getD i Msg0 = c.ps[i] by simp [hi]]; exact List.getElem_mem hi
 ·intro h
  refine ⟨fun i hi => ?_, ?_⟩
  ·obtain ⟨e1, e2, e3, e4, e5, e6⟩ := h i hi
   exact ⟨e1, e4, e5, ⟨hn, e2⟩, e6⟩
  ·rintro ⟨x, hx, hd⟩
   obtain ⟨i, hi, e⟩ := List.getElem_of_mem hx
   obtain ⟨_, _, e3, _⟩ := h i hi
   rw [show c.ps.getD i Msg0 = x by simp [hi, e]] at e3
   exact hd e3
theorem s161 (n : Int) (hn : nodes n) (p : ByteArray) : Pure En 161 [.one (.int .i64 n), .one (.str p)] [.agg ((bZ p).T false), .one (.int .i64 (btT n p)), .one (.bool (decide (bodyOK rdM n p)))] := by
 have h228 : Pure En 228 [.one (.str p)] [.agg ((bZ p).T false), .one (.bool (decide (bOK p)))] := s228 p
 refine Pure.of_ev (st := []) Tryz.func161 rfl kb ?_
 refine C5 h228 rfl rfl rfl ?_
 refine brB ?_ ?_ <;> intro h1_4
 ·(apply est (u := .agg [.bool _, .int _ _, .int _ _, .int _ _, .int _ _, .str _, _]) j3; exact Q0; exact Q4; exact j2; rfl; rfl; exact kb; rfl)
  refine A2 ?_ (by exact Q0) (by exact Q4)
  refine brB ?_ ?_ <;> intro h2_4
  ·(apply D2 (vs := [.bool _, .int _ _, .int _ _, .int _ _, .int _ _, .str _, _]) j2; exact Q0; exact Q4; rfl; exact kb; rfl)
   (apply est (u := .agg [.bool _, .int _ _, .int _ _, .int _ _, .int _ _, .str _, _]) j3; exact Q0; exact Q4; exact j2; rfl; rfl; exact kb; rfl)
   first
   | (have hb : ¬ bOK p := of_decide_eq_false h1_4
      rw [show btT n p = 0 from if_neg (fun q => hb q.1), decide_eq_false (fun q : bodyOK rdM n p => hb q.1)]
      refine D3 [] (A0 (A4 rfl (by exact Q0) j2 kb rfl) (A0 rfl (A0 rfl A1))) ?_
      exact (SnapL.cons _ _ _ _ (SnapC.agg (.cons _ _ _ _ (.bool _) (.cons _ _ _ _ (.int _ _) (.cons _ _ _ _ (.int _ _) (.cons _ _ _ _ (.int _ _) (.cons _ _ _ _ (.int _ _) (.cons _ _ _ _ (.str _) (.cons _ _ _ _ (.sl true false _ (fun _ => .inl rfl)) .nil)))))))) (SnapL.cons _ _ _ _ (.one _ _ (.int _ _)) (SnapL.cons _ _ _ _ (.one _ _ (.bool _)) SnapL.nil))))
   | (have hb : bOK p := of_decide_eq_true h1_4
      have hz : (bX p).nl = true := by rw [← bZ_y hb]; exact h2_4
      rw [show btT n p = 0 from if_neg (fun q => by have := q.2; rw [hz] at this; cases this), decide_eq_true (show bodyOK rdM n p from ⟨hb, .inl hz⟩)]
      refine D3 [] (A0 (A4 rfl (by exact Q0) j2 kb rfl) (A0 rfl (A0 rfl A1))) ?_
      exact (SnapL.cons _ _ _ _ (SnapC.agg (.cons _ _ _ _ (.bool _) (.cons _ _ _ _ (.int _ _) (.cons _ _ _ _ (.int _ _) (.cons _ _ _ _ (.int _ _) (.cons _ _ _ _ (.int _ _) (.cons _ _ _ _ (.str _) (.cons _ _ _ _ (.sl true false _ (fun _ => .inl rfl)) .nil)))))))) (SnapL.cons _ _ _ _ (.one _ _ (.int _ _)) (SnapL.cons _ _ _ _ (.one _ _ (.bool _)) SnapL.nil))))
  ·refine A2 ?_ (by exact Q0) (by exact Q4)
   refine C5 (s229 n hn (bZ p).rs false) rfl rfl rfl ?_
   refine brB ?_ ?_ <;> intro h4_6
   ·(apply D2 (vs := [.bool _, .int _ _, .int _ _, .int _ _, .int _ _, .str _, _]) j2; exact Q0; exact Q4; rfl; exact kb; rfl)
    (apply est (u := .agg [.bool _, .int _ _, .int _ _, .int _ _, .int _ _, .str _, _]) j3; exact Q0; exact Q4; exact j2; rfl; rfl; exact kb; rfl)
    have hb : bOK p := of_decide_eq_true h1_4
    have hz : (bX p).nl = false := by rw [← bZ_y hb]; exact h2_4
    have hbz := bZ_y hb
    rw [show btT n p = tmX n (bZ p).rs from (if_pos ⟨hb, hz⟩).trans (by rw [hbz])]
    first
    | (rw [decide_eq_true (show bodyOK rdM n p from ⟨hb, .inr (by rw [← hbz]; exact of_decide_eq_true h4_6)⟩)]
       refine D3 [] (A0 (A4 rfl (by exact Q0) j2 kb rfl) (A0 rfl (A0 rfl A1))) ?_
       exact (SnapL.cons _ _ _ _ (SnapC.agg (.cons _ _ _ _ (.bool _) (.cons _ _ _ _ (.int _ _) (.cons _ _ _ _ (.int _ _) (.cons _ _ _ _ (.int _ _) (.cons _ _ _ _ (.int _ _) (.cons _ _ _ _ (.str _) (.cons _ _ _ _ (.sl true false _ (fun _ => .inl rfl)) .nil)))))))) (SnapL.cons _ _ _ _ (.one _ _ (.int _ _)) (SnapL.cons _ _ _ _ (.one _ _ (.bool _)) SnapL.nil))))
    | (rw [decide_eq_false (fun q : bodyOK rdM n p => q.2.elim (fun e => by rw [hz] at e; cases e) (fun e => (of_decide_eq_false h4_6) (by rw [hbz]; exact e)))]
       refine D3 [] (A0 (A4 rfl (by exact Q0) j2 kb rfl) (A0 rfl (A0 rfl A1))) ?_
       exact (SnapL.cons _ _ _ _ (SnapC.agg (.cons _ _ _ _ (.bool _) (.cons _ _ _ _ (.int _ _) (.cons _ _ _ _ (.int _ _) (.cons _ _ _ _ (.int _ _) (.cons _ _ _ _ (.int _ _) (.cons _ _ _ _ (.str _) (.cons _ _ _ _ (.sl true false _ (fun _ => .inl rfl)) .nil)))))))) (SnapL.cons _ _ _ _ (.one _ _ (.int _ _)) (SnapL.cons _ _ _ _ (.one _ _ (.bool _)) SnapL.nil))))
   ·(apply D2 (vs := [.bool _, .int _ _, .int _ _, .int _ _, .int _ _, .str _, _]) j2; exact Q0; exact Q4; rfl; exact kb; rfl)
    (apply est (u := .agg [.bool _, .int _ _, .int _ _, .int _ _, .int _ _, .str _, _]) j3; exact Q0; exact Q4; exact j2; rfl; rfl; exact kb; rfl)
    have hb : bOK p := of_decide_eq_true h1_4
    have hz : (bX p).nl = false := by rw [← bZ_y hb]; exact h2_4
    have hbz := bZ_y hb
    rw [show btT n p = tmX n (bZ p).rs from (if_pos ⟨hb, hz⟩).trans (by rw [hbz])]
    first
    | (rw [decide_eq_true (show bodyOK rdM n p from ⟨hb, .inr (by rw [← hbz]; exact of_decide_eq_true h4_6)⟩)]
       refine D3 [] (A0 (A4 rfl (by exact Q0) j2 kb rfl) (A0 rfl (A0 rfl A1))) ?_
       exact (SnapL.cons _ _ _ _ (SnapC.agg (.cons _ _ _ _ (.bool _) (.cons _ _ _ _ (.int _ _) (.cons _ _ _ _ (.int _ _) (.cons _ _ _ _ (.int _ _) (.cons _ _ _ _ (.int _ _) (.cons _ _ _ _ (.str _) (.cons _ _ _ _ (.sl true false _ (fun _ => .inl rfl)) .nil)))))))) (SnapL.cons _ _ _ _ (.one _ _ (.int _ _)) (SnapL.cons _ _ _ _ (.one _ _ (.bool _)) SnapL.nil))))
    | (rw [decide_eq_false (fun q : bodyOK rdM n p => q.2.elim (fun e => by rw [hz] at e; cases e) (fun e => (of_decide_eq_false h4_6) (by rw [hbz]; exact e)))]
       refine D3 [] (A0 (A4 rfl (by exact Q0) j2 kb rfl) (A0 rfl (A0 rfl A1))) ?_
       exact (SnapL.cons _ _ _ _ (SnapC.agg (.cons _ _ _ _ (.bool _) (.cons _ _ _ _ (.int _ _) (.cons _ _ _ _ (.int _ _) (.cons _ _ _ _ (.int _ _) (.cons _ _ _ _ (.int _ _) (.cons _ _ _ _ (.str _) (.cons _ _ _ _ (.sl true false _ (fun _ => .inl rfl)) .nil)))))))) (SnapL.cons _ _ _ _ (.one _ _ (.int _ _)) (SnapL.cons _ _ _ _ (.one _ _ (.bool _)) SnapL.nil))))
 ·(apply est (u := .agg [.bool _, .int _ _, .int _ _, .int _ _, .int _ _, .str _, _]) j3; exact Q0; exact Q4; exact j2; rfl; rfl; exact kb; rfl)
  (apply D2 (vs := [.bool _, .int _ _, .int _ _, .int _ _, .int _ _, .str _, _]) j2; exact Q0; exact Q4; rfl; exact kb; rfl)
  (apply est (u := .agg [.bool _, .int _ _, .int _ _, .int _ _, .int _ _, .str _, _]) j3; exact Q0; exact Q4; exact j2; rfl; rfl; exact kb; rfl)
  first
  | (have hb : ¬ bOK p := of_decide_eq_false h1_4
     rw [show btT n p = 0 from if_neg (fun q => hb q.1), decide_eq_false (fun q : bodyOK rdM n p => hb q.1)]
     refine D3 [] (A0 (A4 rfl (by exact Q0) j2 kb rfl) (A0 rfl (A0 rfl A1))) ?_
     exact (SnapL.cons _ _ _ _ (SnapC.agg (.cons _ _ _ _ (.bool _) (.cons _ _ _ _ (.int _ _) (.cons _ _ _ _ (.int _ _) (.cons _ _ _ _ (.int _ _) (.cons _ _ _ _ (.int _ _) (.cons _ _ _ _ (.str _) (.cons _ _ _ _ (.sl true false _ (fun _ => .inl rfl)) .nil)))))))) (SnapL.cons _ _ _ _ (.one _ _ (.int _ _)) (SnapL.cons _ _ _ _ (.one _ _ (.bool _)) SnapL.nil))))
  | (have hb : bOK p := of_decide_eq_true h1_4
     have hz : (bX p).nl = true := by rw [← bZ_y hb]; exact h2_4
     rw [show btT n p = 0 from if_neg (fun q => by have := q.2; rw [hz] at this; cases this), decide_eq_true (show bodyOK rdM n p from ⟨hb, .inl hz⟩)]
     refine D3 [] (A0 (A4 rfl (by exact Q0) j2 kb rfl) (A0 rfl (A0 rfl A1))) ?_
     exact (SnapL.cons _ _ _ _ (SnapC.agg (.cons _ _ _ _ (.bool _) (.cons _ _ _ _ (.int _ _) (.cons _ _ _ _ (.int _ _) (.cons _ _ _ _ (.int _ _) (.cons _ _ _ _ (.int _ _) (.cons _ _ _ _ (.str _) (.cons _ _ _ _ (.sl true false _ (fun _ => .inl rfl)) .nil)))))))) (SnapL.cons _ _ _ _ (.one _ _ (.int _ _)) (SnapL.cons _ _ _ _ (.one _ _ (.bool _)) SnapL.nil))))
theorem s86 (n : Int) (hn : nodes n) (p : ByteArray) : Pure En 86 [.one (.int .i64 n), .one (.str p)] [.one (.bool (decide (bodyOK rdM n p)))] := by
 refine Pure.of_ev (st := []) Tryz.func86 rfl kb ?_
 refine C5 (s161 n hn p) rfl rfl rfl ?_
 refine brB ?_ ?_ <;> intro h1_6
 ·(apply est (u := .agg [.bool _, .int _ _, .int _ _, .int _ _, .int _ _, .str _, _]) j3; exact Q0; rfl; exact j2; rfl; rfl; exact kb; rfl)
  first | (refine C3 rfl ?_; exact of_decide_eq_true h1_6) | (refine B7 rfl ?_; exact of_decide_eq_false h1_6)
 ·(apply est (u := .agg [.bool _, .int _ _, .int _ _, .int _ _, .int _ _, .str _, _]) j3; exact Q0; rfl; exact j2; rfl; rfl; exact kb; rfl)
  first | (refine C3 rfl ?_; exact of_decide_eq_true h1_6) | (refine B7 rfl ?_; exact of_decide_eq_false h1_6)
theorem s83 (n : Int) (c : Ct) (b : Bool) : Pure En 83 [.one (.int .i64 n), .agg (c.T b)] [.one (.bool (decide (nodes n ∧ ctOK mk bare rdM dgB n c)))] := by
 have hl : (c.ps.map Msg.T).length = c.ps.length := List.length_map ..
 refine Pure.of_ev (st := []) Tryz.func83 rfl kb ?_
 refine B8 (p22 n) rfl j2 ?_ ?_ <;> intro h1_1
 ·refine A2 ?_ (by exact Q0) (by exact Q4)
  refine br ?_ ?_ <;> intro h1_7
  ·refine B7 rfl ?_
   rintro ⟨q1, q2, q3, q4, _⟩
   first
   | exact h1_1 q1
   | omega
   | exact h1_13 q4
  ·refine A2 ?_ (by exact Q0) (by exact Q4)
   refine B8 (s86 n h1_1 c.bd) rfl j2 ?_ ?_ <;> intro h1_13
   ·refine A2 ?_ (by exact Q0) (by exact Q4)
    refine C5 (s140 n h1_1) rfl rfl rfl ?_
    refine br ?_ ?_ <;> intro h1_22
    ·refine B7 rfl ?_
     rintro ⟨q1, q2, q3, q4, _⟩
     first
     | exact h1_1 q1
     | omega
     | exact h1_13 q4
    ·have hq := S6 h1_1
     refine A2 ?_ (by exact Q0) (by exact Q4)
     refine C5 (s159 c.bd (by omega)) rfl rfl rfl ?_
     refine A2 ?_ (by exact Q0) (by exact Q4)
     (refine C0 (D1 (by first | rfl | assumption | (exact A7 Msg.T Msg0 (k := 0) (by omega))) rfl ?_))
     (apply est (u := .str _) j3; exact Q0; exact Q4; exact j2; rfl; rfl; exact kb; rfl)
     (apply est (u := .agg [.int _ _, .int _ _, .int _ _, .int _ _, .str _, .str _, .str _]) j3; exact Q0; exact Q4; exact j2; rfl; rfl; exact kb; rfl)
     refine clr 11 [3, 3, 3, 3, 0, 0, 1, 0, 0, 1, 0] [(1, 7), (4, 7), (1, 8), (4, 8), (7, 8), (4, 9)] j2 (by decide +kernel) ?_ ?_
     ·first | (simp [ClearL, ids]; done) | (simp [ClearL, ids]; omega) | (simp [ClearL, ids, srcIds, Env.eval, put, upd, retV, A.toV, T.toV]; try omega)
     refine A2 ?_ (by exact Q0) (by exact Q4)
     refine A2 ?_ (by exact Q0) (by exact Q4)
     refine A2 ?_ (by exact Q0) (by exact Q4)
     refine B8 (s158 n 2 c.vw c.sq c.ps b (by have := S6 h1_1; omega)) rfl j2 ?_ ?_ <;> intro h4_7
     ·refine A2 ?_ (by exact Q0) (by exact Q4)
      refine U5 (o98 false b c.ps (dgB c.bd) (by have := S6 h1_1; omega) ?_ ?_) rfl j2 ?_ ?_
      ·exact G9
      ·exact G9
      all_goals intro h4_12
      ·first
       | (refine C3 rfl ?_; exact ⟨h1_1, by omega, by omega, h1_13, (ct_iff h1_1).1 ⟨h4_7, of_decide_eq_false h4_12⟩⟩)
       | (refine B7 rfl ?_; rintro ⟨q1, q2, q3, q4, q5⟩; have q6 := (ct_iff h1_1).2 q5; first | exact h4_7 q6.1 | exact q6.2 (of_decide_eq_true h4_12))
      ·first
       | (refine C3 rfl ?_; exact ⟨h1_1, by omega, by omega, h1_13, (ct_iff h1_1).1 ⟨h4_7, of_decide_eq_false h4_12⟩⟩)
       | (refine B7 rfl ?_; rintro ⟨q1, q2, q3, q4, q5⟩; have q6 := (ct_iff h1_1).2 q5; first | exact h4_7 q6.1 | exact q6.2 (of_decide_eq_true h4_12))
     ·first
      | (refine C3 rfl ?_; exact ⟨h1_1, by omega, by omega, h1_13, (ct_iff h1_1).1 ⟨h4_7, of_decide_eq_false h4_12⟩⟩)
      | (refine B7 rfl ?_; rintro ⟨q1, q2, q3, q4, q5⟩; have q6 := (ct_iff h1_1).2 q5; first | exact h4_7 q6.1 | exact q6.2 (of_decide_eq_true h4_12))
   ·refine B7 rfl ?_
    rintro ⟨q1, q2, q3, q4, _⟩
    first
    | exact h1_1 q1
    | omega
    | exact h1_13 q4
 ·refine B7 rfl ?_
  rintro ⟨q1, q2, q3, q4, _⟩
  first
  | exact h1_1 q1
  | omega
  | exact h1_13 q4
open Go.V
set_option linter.unusedVariables false
set_option linter.unusedSimpArgs false
set_option maxRecDepth 20000
set_option maxHeartbeats 4000000
def Ct.V (c : Ct) : List V := [.str c.bd, .sl true false (c.ps.map Msg.T)]
theorem rowsC (L : List Ct) : rowsV (L.map (Ct.T false)) = L.map Ct.V := by unfold rowsV; rw [List.map_map]; rfl
theorem V2 {n : Int} {c : Ct} (h : nodes n ∧ ctOK mk bare rdM dgB n c) : 0 < c.ps.length := by
 have := S6 h.1
 have := h.2.1
 omega
theorem U2 {s : ByteArray} (h : (ctC s).isSome = true) : ctC s = some (ctX s) := by
 unfold ctX
 match e : ctC s with
 | some c => rfl
 | none => rw [e] at h; cases h
noncomputable def vcL (l : List ByteArray) : Nat → List Ct
 | 0 => []
 | i + 1 => vcL l i ++ [ctX (l.getD i ⟨#[]⟩)]
theorem vcL_len (l : List ByteArray) : ∀ i, (vcL l i).length = i
 | 0 => rfl
 | i + 1 => by show (vcL l i ++ [_]).length = _; rw [List.length_append, vcL_len l i]; rfl
theorem getVm {α : Type} (f : α → List V) (d : α) {L : List α} {i : Nat} (hi : 0 < i) (h : i ≤ L.length) : (L.map f)[0 + ((i : Int) - 1).toNat]? = some (f (L.getD (i - 1) d)) := by
 rw [show ((i : Int) - 1).toNat = i - 1 by omega, Nat.zero_add]; simp [show i - 1 < L.length by omega]
abbrev VC (n vw : Int) (l : List ByteArray) (i : Nat) (out : List Ct) : Prop := Vc mk bare rdM dgB n vw l i out
theorem VC.pos {n vw : Int} {l : List ByteArray} {i : Nat} {out : List Ct} (hn : nodes n) (h : VC n vw l i out) : ∀ j, j < i → 0 < (out.getD j Ct0).ps.length := by
 induction h with
 | nil => intro j hj; omega
 | more i out c h hi hc ih =>
  intro j hj
  have hl := h.len
  by_cases e : j < i
  ·have := ih j e
   rwa [show (out ++ [c]).getD j Ct0 = out.getD j Ct0 by simp [List.getElem?_append_left (show j < out.length by omega)]]
  ·rw [show (out ++ [c]).getD j Ct0 = c by simp [show j = out.length by omega]]
   exact V2 ⟨hn, hc.2.1⟩
def okV (n : Int) (m : Msg) : Prop := nodes n ∧ ∃ out, vcM mk bare rdM dgB n m out
noncomputable instance dcOv (n : Int) (m : Msg) : Decidable (okV n m) := Classical.propDecidable _
noncomputable def vcO (n : Int) (m : Msg) : List Ct := if okV n m then vcL (lsO m.bd) (lsO m.bd).length else []
theorem J2 {n : Int} {m : Msg} {i : Nat} (hls : lsC m.bd = some (lsO m.bd)) (hV : VC n m.vw (lsO m.bd) i (vcL (lsO m.bd) i)) (hi : i < (lsO m.bd).length)
  (h : ∀ c, ¬ vcT mk bare rdM dgB n m.vw (vcL (lsO m.bd) i) ((lsO m.bd).getD i ⟨#[]⟩) c) : ¬ okV n m := by
 rintro ⟨_, out, _, _, _, l, e, _, hv⟩
 obtain rfl : lsO m.bd = l := Option.some.inj (hls.symm.trans e)
 exact hV.stop hi h hi hv
theorem okV_yes {n : Int} {m : Msg} (h1 : m.kd = 4) (h2 : 1 ≤ m.vw) (h3 : nodes n ∧ sgd mk bare n m) (hls : lsC m.bd = some (lsO m.bd)) (h8 : (lsO m.bd).length ≤ 8) {i : Nat} (hi : i = (lsO m.bd).length) (hV : VC n m.vw (lsO m.bd) i (vcL (lsO m.bd) i)) : okV n m ∧ vcO n m = vcL (lsO m.bd) i := by
 subst hi
 have h : okV n m := ⟨h3.1, _, h1, h2, h3.2, _, hls, h8, hV⟩
 exact ⟨h, if_pos h⟩
theorem okV_is {n : Int} {m : Msg} {out : List Ct} (hn : nodes n) (h : vcM mk bare rdM dgB n m out) : okV n m ∧ vcO n m = out := by
 have hk : okV n m := ⟨hn, out, h⟩
 refine ⟨hk, ?_⟩
 rw [show vcO n m = _ from if_pos hk]
 obtain ⟨_, _, _, l, e, _, hv⟩ := h
 have el : lsO m.bd = l := by unfold lsO; rw [e]
 rw [el]
 have key : ∀ {i : Nat} {o : List Ct}, VC n m.vw l i o → o = vcL l i := fun {i} {o} h => by
  induction h with
  | nil => rfl
  | more i out c h hi hc ih =>
   show _ = vcL l i ++ [_]
   rw [← ih]
   congr 2
   unfold ctX; rw [hc.1]
 exact (key hv).symm
structure WS where
 i : Nat
 o : V
 b : Nat
 m : Nat
 g : Heap
structure WI (n : Int) (m : Msg) (l : List ByteArray) (a : WS) : Prop where
 il : a.i ≤ l.length
 g0 : a.g 0 = some ⟨[m.V], 7, 37⟩
 out : LsOK Ct.V 2 44 1 (vcL l a.i) a.o a.b a.m a.g
 mm : 1 ≤ a.m
 vc : VC n m.vw l a.i (vcL l a.i)
theorem s70 (n : Int) (m : Msg) : Pure En 70 [.one (.int .i64 n), .agg m.T] [.one (.sl false ((vcO n m).map (Ct.T false))), .one (.bool (decide (okV n m)))] := by
 refine Pure.of_ev (st := [14]) Tryz.func70 rfl kb ?_
 refine A2 ?_ (by exact Q0) (by exact P8)
 refine br ?_ ?_ <;> intro h1_2
 ·have hno : ¬ okV n m := by
   rintro ⟨q0, out, q1, q2, q3, _⟩
   first
   | omega
   | exact h1_11 ⟨q0, q3⟩
  rw [show vcO n m = [] from if_neg hno, decide_eq_false hno]
  exact D3 [] (A0 rfl (A0 rfl A1)) (SnapL.cons _ _ _ _ (.one _ _ .nslW) (SnapL.cons _ _ _ _ (.one _ _ (.bool _)) SnapL.nil))
 ·refine A2 ?_ (by exact Q0) (by exact P8)
  refine br ?_ ?_ <;> intro h1_6
  ·have hno : ¬ okV n m := by
    rintro ⟨q0, out, q1, q2, q3, _⟩
    first
    | omega
    | exact h1_11 ⟨q0, q3⟩
   rw [show vcO n m = [] from if_neg hno, decide_eq_false hno]
   exact D3 [] (A0 rfl (A0 rfl A1)) (SnapL.cons _ _ _ _ (.one _ _ .nslW) (SnapL.cons _ _ _ _ (.one _ _ (.bool _)) SnapL.nil))
  ·(apply D2 (vs := [.int _ _, .int _ _, .int _ _, .int _ _, .str _, .str _, .str _]) j2; exact Q0; exact P8; rfl; exact kb; rfl)
   refine B8 (s55 n m) rfl j2 ?_ ?_ <;> intro h1_11
   ·refine A2 ?_ (by exact Q0) (by exact P8)
    refine C5 (s147 m.bd) rfl rfl rfl ?_
    refine brB ?_ ?_ <;> intro h3_5
    ·refine br ?_ ?_ <;> intro h4_5
     ·have hno : ¬ okV n m := by
       rintro ⟨_, out, _, _, _, l, e, h8, _⟩
       have el : lsO m.bd = l := by unfold lsO; rw [e]
       first
       | (rw [← el] at h8; rw [List.length_map] at h4_5; omega)
       | (rw [e] at h3_5; cases h3_5)
      rw [show vcO n m = [] from if_neg hno, decide_eq_false hno]
      exact D3 [] (A0 rfl (A0 rfl A1)) (SnapL.cons _ _ _ _ (.one _ _ .nslW) (SnapL.cons _ _ _ _ (.one _ _ (.bool _)) SnapL.nil))
     ·have hls := J7 h3_5
      have hn := h1_11.1
      have hl : ((lsO m.bd).map tT).length = (lsO m.bd).length := List.length_map ..
      refine wlG fun g0 hg0 => ?_
      refine A9 (fun (a : WS) => [.int .i64 n, .unk, .unk, .ptr 0 0 0, .unk, .unk, .unk, .unk, a.o, .unk, .unk, .unk, .unk, .unk, .unk, .unk, .unk, .unk, .unk, .unk, .unk, .unk, .unk, .unk, .unk, .unk, .unk, .unk, .unk, .unk, .unk, .unk, .unk, .unk, .unk, .unk, .unk, .unk, .unk, .unk, .sl true false ((lsO m.bd).map tT), .int .i64 ((lsO m.bd).map tT).length, .int .i64 a.i]) (fun (a : WS) => a.g) (fun (a : WS) => a.m) (fun (a : WS) => WI n m (lsO m.bd) a) (fun (a : WS) => (lsO m.bd).length - a.i) ⟨0, .nsl, 0, 1, g0⟩ ?_ ?_ ?_ ?_ ?_
      ·refine ⟨Nat.zero_le _, ?_, .inl ⟨rfl, rfl⟩, by dsimp only; omega, .nil⟩
       dsimp only; rw [hg0]; exact Q0
      ·(repeat first | exact LE.nil _ | refine LE.unk _ _ ?_ | refine LE.eq _ _ _ rfl ?_)
      ·exact LessH.refl _
      ·exact Nat.le_refl _
      intro ⟨i, o, b, mm, g⟩ hI ih
      have q0 := hI.il
      have hg0 := hI.g0
      have q4 := hI.mm
      unfold Msg.V at hg0
      dsimp only at q0 hg0 q4 ⊢
      have hrl := vcL_len (lsO m.bd) i
      rcases hI.out with ⟨e0, e1⟩ | ⟨e1, hbO2, hbO⟩
      all_goals dsimp only at e1
      ·skip
       obtain rfl : i = 0 := by rw [e0] at hrl; exact hrl.symm
       subst e1
       refine A3 (st := [14]) ?_
       refine br ?_ ?_ <;> intro h8_0
       ·(refine C0 (D1 (by first | rfl | assumption | (exact A7 tT ⟨#[]⟩ (k := 0) (by omega))) rfl ?_))
        refine C5 (s148 ((lsO m.bd).getD 0 ⟨#[]⟩)) rfl rfl rfl ?_
        refine brB ?_ ?_ <;> intro h10_4
        ·(apply est (u := .agg [.str _, _]) j3; exact Q0; exact P8; exact j2; rfl; rfl; exact kb; rfl)
         (apply D2 (vs := [.str _, _]) j2; exact Q0; exact P8; rfl; exact kb; rfl)
         refine B8 (s83 n (ctX ((lsO m.bd).getD 0 ⟨#[]⟩)) false) rfl j2 ?_ ?_ <;> intro h11_5
         ·(apply D2 (vs := [.str _, _]) j2; exact Q0; exact P8; rfl; exact kb; rfl)
          refine C5 (s85 (ctX ((lsO m.bd).getD 0 ⟨#[]⟩)) false (V2 h11_5)) rfl rfl rfl ?_
          refine A2 ?_ (by exact Q0) (by exact P8)
          refine br ?_ ?_ <;> intro h11_13
          ·have hno : ¬ okV n m := J2 hls hI.vc (i := 0) (by omega) (by
            rintro c ⟨e1, e2, e3, e4⟩
            have ec : ctX ((lsO m.bd).getD 0 ⟨#[]⟩) = c := by unfold ctX; rw [e1]
            first
            | (rw [e1] at h10_4; cases h10_4; done)
            | exact h11_5 (by rw [ec]; exact ⟨hn, e2⟩)
            | (rw [ec] at h11_13; omega)
            | (have q := e4 (fun e => by rw [e] at hrl; simp at hrl; omega); (try dsimp only at q); rw [hrl] at q; rw [ec] at h11_27; omega))
           rw [show vcO n m = [] from if_neg hno, decide_eq_false hno]
           exact D3 [] (A0 rfl (A0 rfl A1)) (SnapL.cons _ _ _ _ (.one _ _ .nslW) (SnapL.cons _ _ _ _ (.one _ _ (.bool _)) SnapL.nil))
          ·refine br (fun h => absurd h ((by omega))) ?_
           intro h11_17
           (apply D2 (vs := [.str _, _]) j2; exact Q0; exact P8; rfl; exact kb; rfl)
           refine F2 (es := [[.str _, _]]) j4 kz kb rfl rfl ?_
           (apply ean (s' := 40) (es := [[.str _, _]]) rfl j3 kz; exact O8; exact Q7; exact Q5; exact Q5; exact Q5)
           refine H2 fun G hG => ?_
           refine C1 ?_
           have hvc : vcT mk bare rdM dgB n m.vw (vcL (lsO m.bd) 0) ((lsO m.bd).getD 0 ⟨#[]⟩) (ctX ((lsO m.bd).getD 0 ⟨#[]⟩)) := ⟨U2 h10_4, h11_5.2, by omega, fun hne => by rw [hrl]; have hp : 0 < 0 := Nat.pos_of_ne_zero (fun e => hne (by rw [← List.length_eq_zero_iff, hrl, e])); omega⟩
           refine C9 (ih ⟨0 + 1, .view (mm + 1 + 1) 0 1, mm + 1 + 1, mm + 1 + 1 + 1, G⟩ ⟨by dsimp only; omega, ?_, .inr ⟨?_, ?_, by dsimp only; omega, by dsimp only; omega⟩, by dsimp only; omega, Vc.more 0 _ _ hI.vc (by omega) hvc⟩ (by dsimp only; omega)) (by (repeat first | exact LE.nil _ | refine LE.unk _ _ ?_ | refine LE.eq _ _ _ rfl ?_)) (LessH.refl _) (Nat.le_refl _)
           ·dsimp only; rw [hG]; exact Q0
           ·show V.view _ 0 _ = V.view _ 0 (vcL (lsO m.bd) 0 ++ [_]).length; rw [List.length_append]; rfl
           ·dsimp only; rw [hG]; show _ = some (Blk.mk ((vcL (lsO m.bd) 0 ++ [_]).map Ct.V) 2 44); rw [List.map_append]; exact Q0
         ·have hno : ¬ okV n m := J2 hls hI.vc (i := 0) (by omega) (by
           rintro c ⟨e1, e2, e3, e4⟩
           have ec : ctX ((lsO m.bd).getD 0 ⟨#[]⟩) = c := by unfold ctX; rw [e1]
           first
           | (rw [e1] at h10_4; cases h10_4; done)
           | exact h11_5 (by rw [ec]; exact ⟨hn, e2⟩)
           | (rw [ec] at h11_13; omega)
           | (have q := e4 (fun e => by rw [e] at hrl; simp at hrl; omega); (try dsimp only at q); rw [hrl] at q; rw [ec] at h11_27; omega))
          rw [show vcO n m = [] from if_neg hno, decide_eq_false hno]
          exact D3 [] (A0 rfl (A0 rfl A1)) (SnapL.cons _ _ _ _ (.one _ _ .nslW) (SnapL.cons _ _ _ _ (.one _ _ (.bool _)) SnapL.nil))
        ·(apply est (u := .agg [.str _, _]) j3; exact Q0; exact P8; exact j2; rfl; rfl; exact kb; rfl)
         have hno : ¬ okV n m := J2 hls hI.vc (i := 0) (by omega) (by
          rintro c ⟨e1, e2, e3, e4⟩
          have ec : ctX ((lsO m.bd).getD 0 ⟨#[]⟩) = c := by unfold ctX; rw [e1]
          first
          | (rw [e1] at h10_4; cases h10_4; done)
          | exact h11_5 (by rw [ec]; exact ⟨hn, e2⟩)
          | (rw [ec] at h11_13; omega)
          | (have q := e4 (fun e => by rw [e] at hrl; simp at hrl; omega); (try dsimp only at q); rw [hrl] at q; rw [ec] at h11_27; omega))
         rw [show vcO n m = [] from if_neg hno, decide_eq_false hno]
         exact D3 [] (A0 rfl (A0 rfl A1)) (SnapL.cons _ _ _ _ (.one _ _ .nslW) (SnapL.cons _ _ _ _ (.one _ _ (.bool _)) SnapL.nil))
       ·obtain ⟨hyes, he⟩ := okV_yes (by omega) (by omega) h1_11 hls (by omega) (i := 0) (by omega) hI.vc
        rw [he, decide_eq_true hyes]
        exact D3 [] (A0 rfl (A0 rfl A1)) (SnapL.cons _ _ _ _ (.one _ _ .nslW) (SnapL.cons _ _ _ _ (.one _ _ (.bool _)) SnapL.nil))
      ·skip
       dsimp only at hbO2 hbO
       subst e1
       refine A3 (st := [14]) ?_
       refine br ?_ ?_ <;> intro h8_0
       ·(refine C0 (D1 (by first | rfl | assumption | (exact A7 tT ⟨#[]⟩ (k := i) (by omega))) rfl ?_))
        refine C5 (s148 ((lsO m.bd).getD i ⟨#[]⟩)) rfl rfl rfl ?_
        refine brB ?_ ?_ <;> intro h10_4
        ·(apply est (u := .agg [.str _, _]) j3; exact Q0; exact P8; exact j2; rfl; rfl; exact kb; rfl)
         (apply D2 (vs := [.str _, _]) j2; exact Q0; exact P8; rfl; exact kb; rfl)
         refine B8 (s83 n (ctX ((lsO m.bd).getD i ⟨#[]⟩)) false) rfl j2 ?_ ?_ <;> intro h11_5
         ·(apply D2 (vs := [.str _, _]) j2; exact Q0; exact P8; rfl; exact kb; rfl)
          refine C5 (s85 (ctX ((lsO m.bd).getD i ⟨#[]⟩)) false (V2 h11_5)) rfl rfl rfl ?_
          refine A2 ?_ (by exact Q0) (by exact P8)
          refine br ?_ ?_ <;> intro h11_13
          ·have hno : ¬ okV n m := J2 hls hI.vc (i := i) (by omega) (by
            rintro c ⟨e1, e2, e3, e4⟩
            have ec : ctX ((lsO m.bd).getD i ⟨#[]⟩) = c := by unfold ctX; rw [e1]
            first
            | (rw [e1] at h10_4; cases h10_4; done)
            | exact h11_5 (by rw [ec]; exact ⟨hn, e2⟩)
            | (rw [ec] at h11_13; omega)
            | (have q := e4 (fun e => by rw [e] at hrl; simp at hrl; omega); (try dsimp only at q); rw [hrl] at q; rw [ec] at h11_27; omega))
           rw [show vcO n m = [] from if_neg hno, decide_eq_false hno]
           exact D3 [] (A0 rfl (A0 rfl A1)) (SnapL.cons _ _ _ _ (.one _ _ .nslW) (SnapL.cons _ _ _ _ (.one _ _ (.bool _)) SnapL.nil))
          ·refine br ?_ ?_ <;> intro h11_17
           ·refine C1 ?_
            (refine D7 (by exact Q0) ⟨rfl, C0 ?_⟩)
            (apply D2 (vs := [.str _, _]) j2; exact Q0; exact P8; rfl; exact kb; rfl)
            refine C5 (s84 ((vcL (lsO m.bd) i).getD (i - 1) Ct0) false (VC.pos hn hI.vc _ (by first | omega | (dsimp only; omega)))) rfl rfl rfl ?_
            (apply D2 (vs := [.str _, _]) j2; exact Q0; exact P8; rfl; exact kb; rfl)
            refine C5 (s84 (ctX ((lsO m.bd).getD i ⟨#[]⟩)) false (V2 h11_5)) rfl rfl rfl ?_
            refine br ?_ ?_ <;> intro h11_27
            ·have hno : ¬ okV n m := J2 hls hI.vc (i := i) (by omega) (by
              rintro c ⟨e1, e2, e3, e4⟩
              have ec : ctX ((lsO m.bd).getD i ⟨#[]⟩) = c := by unfold ctX; rw [e1]
              first
              | (rw [e1] at h10_4; cases h10_4; done)
              | exact h11_5 (by rw [ec]; exact ⟨hn, e2⟩)
              | (rw [ec] at h11_13; omega)
              | (have q := e4 (fun e => by rw [e] at hrl; simp at hrl; omega); (try dsimp only at q); rw [hrl] at q; rw [ec] at h11_27; omega))
             rw [show vcO n m = [] from if_neg hno, decide_eq_false hno]
             exact D3 [] (A0 rfl (A0 rfl A1)) (SnapL.cons _ _ _ _ (.one _ _ .nslW) (SnapL.cons _ _ _ _ (.one _ _ (.bool _)) SnapL.nil))
            ·(apply D2 (vs := [.str _, _]) j2; exact Q0; exact P8; rfl; exact kb; rfl)
             refine F2 (es := [[.str _, _]]) j4 kz kb rfl rfl ?_
             (apply eap (s' := 40) (es := [[.str _, _]]) rfl rfl; exact Q0; exact j2; exact Q23; exact j2; exact kz; exact O8; exact Q7; exact Q5; exact Q5)
             refine H2 fun G hG => ?_
             refine C1 ?_
             have hvc : vcT mk bare rdM dgB n m.vw (vcL (lsO m.bd) i) ((lsO m.bd).getD i ⟨#[]⟩) (ctX ((lsO m.bd).getD i ⟨#[]⟩)) := ⟨U2 h10_4, h11_5.2, by omega, fun hne => by rw [hrl]; have hp : 0 < i := Nat.pos_of_ne_zero (fun e => hne (by rw [← List.length_eq_zero_iff, hrl, e])); omega⟩
             refine C9 (ih ⟨i + 1, .view (mm + 1 + 1) 0 ((vcL (lsO m.bd) i).length + 1), mm + 1 + 1, mm + 1 + 1 + 1, G⟩ ⟨by dsimp only; omega, ?_, .inr ⟨?_, ?_, by dsimp only; omega, by dsimp only; omega⟩, by dsimp only; omega, Vc.more i _ _ hI.vc (by omega) hvc⟩ (by dsimp only; omega)) (by (repeat first | exact LE.nil _ | refine LE.unk _ _ ?_ | refine LE.eq _ _ _ rfl ?_)) (LessH.refl _) (Nat.le_refl _)
             ·dsimp only; rw [hG]; exact Q0
             ·show V.view _ 0 _ = V.view _ 0 (vcL (lsO m.bd) i ++ [_]).length; rw [List.length_append]; rfl
             ·dsimp only; rw [hG]; show _ = some (Blk.mk ((vcL (lsO m.bd) i ++ [_]).map Ct.V) 2 44); rw [List.map_append]; exact Q0
           ·(apply D2 (vs := [.str _, _]) j2; exact Q0; exact P8; rfl; exact kb; rfl)
            refine F2 (es := [[.str _, _]]) j4 kz kb rfl rfl ?_
            (apply eap (s' := 40) (es := [[.str _, _]]) rfl rfl; exact Q0; exact j2; exact Q23; exact j2; exact kz; exact O8; exact Q7; exact Q5; exact Q5)
            refine H2 fun G hG => ?_
            refine C1 ?_
            have hvc : vcT mk bare rdM dgB n m.vw (vcL (lsO m.bd) i) ((lsO m.bd).getD i ⟨#[]⟩) (ctX ((lsO m.bd).getD i ⟨#[]⟩)) := ⟨U2 h10_4, h11_5.2, by omega, fun hne => by rw [hrl]; have hp : 0 < i := Nat.pos_of_ne_zero (fun e => hne (by rw [← List.length_eq_zero_iff, hrl, e])); omega⟩
            refine C9 (ih ⟨i + 1, .view (mm + 1 + 1) 0 ((vcL (lsO m.bd) i).length + 1), mm + 1 + 1, mm + 1 + 1 + 1, G⟩ ⟨by dsimp only; omega, ?_, .inr ⟨?_, ?_, by dsimp only; omega, by dsimp only; omega⟩, by dsimp only; omega, Vc.more i _ _ hI.vc (by omega) hvc⟩ (by dsimp only; omega)) (by (repeat first | exact LE.nil _ | refine LE.unk _ _ ?_ | refine LE.eq _ _ _ rfl ?_)) (LessH.refl _) (Nat.le_refl _)
            ·dsimp only; rw [hG]; exact Q0
            ·show V.view _ 0 _ = V.view _ 0 (vcL (lsO m.bd) i ++ [_]).length; rw [List.length_append]; rfl
            ·dsimp only; rw [hG]; show _ = some (Blk.mk ((vcL (lsO m.bd) i ++ [_]).map Ct.V) 2 44); rw [List.map_append]; exact Q0
         ·have hno : ¬ okV n m := J2 hls hI.vc (i := i) (by omega) (by
           rintro c ⟨e1, e2, e3, e4⟩
           have ec : ctX ((lsO m.bd).getD i ⟨#[]⟩) = c := by unfold ctX; rw [e1]
           first
           | (rw [e1] at h10_4; cases h10_4; done)
           | exact h11_5 (by rw [ec]; exact ⟨hn, e2⟩)
           | (rw [ec] at h11_13; omega)
           | (have q := e4 (fun e => by rw [e] at hrl; simp at hrl; omega); (try dsimp only at q); rw [hrl] at q; rw [ec] at h11_27; omega))
          rw [show vcO n m = [] from if_neg hno, decide_eq_false hno]
          exact D3 [] (A0 rfl (A0 rfl A1)) (SnapL.cons _ _ _ _ (.one _ _ .nslW) (SnapL.cons _ _ _ _ (.one _ _ (.bool _)) SnapL.nil))
        ·(apply est (u := .agg [.str _, _]) j3; exact Q0; exact P8; exact j2; rfl; rfl; exact kb; rfl)
         have hno : ¬ okV n m := J2 hls hI.vc (i := i) (by omega) (by
          rintro c ⟨e1, e2, e3, e4⟩
          have ec : ctX ((lsO m.bd).getD i ⟨#[]⟩) = c := by unfold ctX; rw [e1]
          first
          | (rw [e1] at h10_4; cases h10_4; done)
          | exact h11_5 (by rw [ec]; exact ⟨hn, e2⟩)
          | (rw [ec] at h11_13; omega)
          | (have q := e4 (fun e => by rw [e] at hrl; simp at hrl; omega); (try dsimp only at q); rw [hrl] at q; rw [ec] at h11_27; omega))
         rw [show vcO n m = [] from if_neg hno, decide_eq_false hno]
         exact D3 [] (A0 rfl (A0 rfl A1)) (SnapL.cons _ _ _ _ (.one _ _ .nslW) (SnapL.cons _ _ _ _ (.one _ _ (.bool _)) SnapL.nil))
       ·obtain ⟨hyes, he⟩ := okV_yes (by omega) (by omega) h1_11 hls (by omega) (i := i) (by omega) hI.vc
        rw [he, decide_eq_true hyes]
        exact D3 [b] (A0 rfl (A0 rfl A1)) (SnapL.cons _ _ _ _ (.one _ _ (.weak _ _ (B5 (b := ⟨(vcL (lsO m.bd) i).map Ct.V, 2, 44⟩) ((vcL (lsO m.bd) i).map (Ct.T false)) (List.mem_singleton.2 rfl) (by exact Q0) (rowsC _).symm (List.length_map ..).symm))) (SnapL.cons _ _ _ _ (.one _ _ (.bool _)) SnapL.nil))
    ·have hno : ¬ okV n m := by
      rintro ⟨_, out, _, _, _, l, e, h8, _⟩
      have el : lsO m.bd = l := by unfold lsO; rw [e]
      first
      | (rw [← el] at h8; rw [List.length_map] at h4_5; omega)
      | (rw [e] at h3_5; cases h3_5)
     rw [show vcO n m = [] from if_neg hno, decide_eq_false hno]
     exact D3 [] (A0 rfl (A0 rfl A1)) (SnapL.cons _ _ _ _ (.one _ _ .nslW) (SnapL.cons _ _ _ _ (.one _ _ (.bool _)) SnapL.nil))
   ·have hno : ¬ okV n m := by
     rintro ⟨q0, out, q1, q2, q3, _⟩
     first
     | omega
     | exact h1_11 ⟨q0, q3⟩
    rw [show vcO n m = [] from if_neg hno, decide_eq_false hno]
    exact D3 [] (A0 rfl (A0 rfl A1)) (SnapL.cons _ _ _ _ (.one _ _ .nslW) (SnapL.cons _ _ _ _ (.one _ _ (.bool _)) SnapL.nil))
open Go.V
set_option linter.unusedVariables false
set_option linter.unusedSimpArgs false
set_option maxRecDepth 20000
set_option maxHeartbeats 4000000
def cG (c : Ct) : Prop := 0 < c.ps.length ∧ 1 ≤ c.sq ∧ c.sq ≤ 8
theorem ct_good {n : Int} {c : Ct} (h : nodes n ∧ ctOK mk bare rdM dgB n c) : cG c := by
 have hp := V2 h
 obtain ⟨e1, e2, _⟩ := h.2.2.2.2 0 hp
 have e3 := e2.1.2.2.2.2.2
 rw [if_pos (by omega)] at e3
 exact ⟨hp, e3.1.1, e3.1.2⟩
theorem VC.good {n vw : Int} {l : List ByteArray} {i : Nat} {out : List Ct} (hn : nodes n) (h : VC n vw l i out) : ∀ j, j < i → cG (out.getD j Ct0) := by
 induction h with
 | nil => intro j hj; omega
 | more i out c h hi hc ih =>
  intro j hj
  have hl := h.len
  by_cases e : j < i
  ·have := ih j e
   rwa [show (out ++ [c]).getD j Ct0 = out.getD j Ct0 by simp [List.getElem?_append_left (show j < out.length by omega)]]
  ·rw [show (out ++ [c]).getD j Ct0 = c by simp [show j = out.length by omega]]
   exact ct_good ⟨hn, hc.2.1⟩
theorem vcO_good (n : Int) (m : Msg) : ∀ j, j < (vcO n m).length → cG ((vcO n m).getD j Ct0) := by
 intro j hj
 by_cases h : okV n m
 ·obtain ⟨hn, out, ho⟩ := h
  have e := (okV_is hn ho).2
  rw [e] at hj ⊢
  obtain ⟨_, _, _, l, _, _, hv⟩ := ho
  exact VC.good hn hv j (by have := hv.len; omega)
 ·rw [show vcO n m = [] from if_neg h] at hj; simp at hj
def rnS (s : Pl) (cs : List Ct) : Nat → Pl
 | 0 => s
 | k + 1 => (rnS s cs k).step (cs.getD k Ct0)
noncomputable def plS (n : Int) (L : List Msg) : Nat → Pl
 | 0 => Pl0
 | i + 1 => rnS (plS n L i) (vcO n (L.getD i Msg0)) (vcO n (L.getD i Msg0)).length
structure PlG (s : Pl) : Prop where
 len : s.B.length = 9
 lo : 0 ≤ s.last
 hi : s.last ≤ 8
theorem PlG.zero : PlG Pl0 := ⟨rfl, by decide, by decide⟩
theorem PlG.step {s : Pl} {c : Ct} (h : PlG s) (hc : cG c) : PlG (s.step c) := by
 obtain ⟨h1, h2, h3⟩ := h
 obtain ⟨_, c1, c2⟩ := hc
 refine ⟨?_, ?_, ?_⟩
 ·unfold Pl.step; dsimp only; split
  ·rw [List.length_set]; exact h1
  ·exact h1
 ·show 0 ≤ max s.last c.sq; omega
 ·show max s.last c.sq ≤ 8; omega
theorem PlG.rn {s : Pl} {cs : List Ct} (h : PlG s) (hc : ∀ j, j < cs.length → cG (cs.getD j Ct0)) : ∀ k, k ≤ cs.length → PlG (rnS s cs k)
 | 0, _ => h
 | k + 1, hk => (PlG.rn h hc k (by omega)).step (hc k (by omega))
theorem PlG.pl (n : Int) (L : List Msg) : ∀ i, PlG (plS n L i)
 | 0 => PlG.zero
 | i + 1 => PlG.rn (PlG.pl n L i) (vcO_good n _) _ (Nat.le_refl _)
def rowB (c : Ct) : List V := if c.ps.length = 0 then [.str ⟨#[]⟩, .nsl] else c.V
def ouP (s : Pl) : Nat → List ByteArray
 | 0 => []
 | k + 1 => ouP s k ++ [if (s.B.getD (k + 1) Ct0).ps.length = 0 then nullT else (s.B.getD (k + 1) Ct0).bd]
def okP (n vw : Int) (L : List Msg) (i : Nat) : Prop := okV n (L.getD i Msg0) ∧ (L.getD i Msg0).vw = vw ∧ (0 < i → (L.getD (i - 1) Msg0).fr < (L.getD i Msg0).fr)
def planOK (n vw : Int) (L : List Msg) : Prop := (L.length : Int) = quo n ∧ ∀ i, i < L.length → okP n vw L i
noncomputable instance dcPo (n vw : Int) (L : List Msg) : Decidable (planOK n vw L) := Classical.propDecidable _
noncomputable def plC (n vw : Int) (L : List Msg) : Int := if (L.length : Int) = quo n then if planOK n vw L then 0 else 12 else 19
noncomputable def plO (n vw : Int) (L : List Msg) : List ByteArray := if planOK n vw L then ouP (plS n L L.length) ((plS n L L.length).last + 1 - 1).toNat else []
open Go.V
set_option linter.unusedVariables false
set_option linter.unusedSimpArgs false
set_option maxRecDepth 20000
set_option maxHeartbeats 4000000
def BB (s : Pl) : Option Blk := some ⟨s.B.map rowB, 2, 44⟩
structure QS where
 i : Nat
 m : Nat
 g : Heap
structure QI (n vw : Int) (L : List Msg) (a : QS) : Prop where
 il : a.i ≤ L.length
 g0 : a.g 0 = BB (plS n L a.i)
 mm : 1 ≤ a.m
 ok : ∀ j, j < a.i → okP n vw L j
structure RI (s : Pl) (cs : List Ct) (a : QS) : Prop where
 il : a.i ≤ cs.length
 g0 : a.g 0 = BB (rnS s cs a.i)
 mm : 1 ≤ a.m
structure US where
 i : Nat
 o : V
 b : Nat
 m : Nat
 g : Heap
structure UI (s : Pl) (a : US) : Prop where
 il : a.i ≤ (s.last + 1 - 1).toNat
 g0 : a.g 0 = BB s
 mm : 1 ≤ a.m
 out : LsOK tV 1 9 1 (ouP s a.i) a.o a.b a.m a.g
open Go.V
set_option linter.unusedVariables false
set_option linter.unusedSimpArgs false
set_option maxRecDepth 20000
set_option maxHeartbeats 4000000
noncomputable instance dcPr (n vw : Int) : Decidable (nodes n ∧ 1 ≤ vw ∧ vw ≤ 20) := Classical.propDecidable _
noncomputable def pnC (n vw : Int) (L : List Msg) : Int := if 4096 < L.length then 2 else if nodes n ∧ 1 ≤ vw ∧ vw ≤ 20 then plC n vw L else 4
noncomputable def pnO (n vw : Int) (L : List Msg) : List ByteArray := if 4096 < L.length then [] else if nodes n ∧ 1 ≤ vw ∧ vw ≤ 20 then plO n vw L else []
open Go.V
set_option linter.unusedVariables false
set_option linter.unusedSimpArgs false
set_option maxRecDepth 20000
set_option maxHeartbeats 4000000
theorem r59 (n : Int) (hn : nodes n) : Pure En 59 [.one (.int .i64 n)] [.one (.int .i64 (quo n))] := by
 rcases hn with rfl | rfl | rfl
 all_goals
  refine Pure.of_ev (st := []) Tryz.func59 rfl kb ?_
  refine C1 ?_
  refine C0 ?_
  refine C1 ?_
  refine C1 ?_
  exact C2 rfl rfl
theorem r223 (r : Rg) : Pure En 223 [.agg r.T] [.one (.bool (decide r.OK))] := by
 refine Pure.of_ev (st := []) Tryz.func223 rfl kb ?_
 refine A2 ?_
 refine B8 (s50 _ _ _) rfl j2 ?_ ?_ <;> intro h1_2
 ·refine A2 ?_
  refine B8 (s50 _ _ _) rfl j2 ?_ ?_ <;> intro h1_6
  ·refine A2 ?_
   refine br ?_ ?_ <;> intro h1_12
   ·first | (refine C3 rfl ?_; unfold Rg.OK; omega) | (refine B7 rfl ?_; unfold Rg.OK; omega)
   ·first | (refine C3 rfl ?_; unfold Rg.OK; omega) | (refine B7 rfl ?_; unfold Rg.OK; omega)
  ·first | (refine C3 rfl ?_; unfold Rg.OK; omega) | (refine B7 rfl ?_; unfold Rg.OK; omega)
 ·first | (refine C3 rfl ?_; unfold Rg.OK; omega) | (refine B7 rfl ?_; unfold Rg.OK; omega)
theorem r165 (m : Msg) : Pure En 165 [.agg m.T] [.one (.bool (decide m.OK))] := by
 refine Pure.of_ev (st := []) Tryz.func165 rfl kb ?_
 refine A2 ?_
 refine B8 (s50 _ _ _) rfl j2 ?_ ?_ <;> intro h1_2
 ·refine A2 ?_
  refine B8 (s50 _ _ _) rfl j2 ?_ ?_ <;> intro h1_7
  ·refine A2 ?_
   refine B8 (s50 _ _ _) rfl j2 ?_ ?_ <;> intro h1_13
   ·refine A2 ?_
    refine br ?_ ?_ <;> intro h1_20
    ·first
     | (refine C3 rfl ?_; unfold Msg.OK; refine ⟨by omega, by omega, by omega, by omega, by omega, ?_⟩; first | (rw [if_pos (by omega)]; exact ⟨by omega, by omega, (by constructor <;> intro q <;> first | assumption | exact absurd q (by assumption) | omega | (exact absurd (by assumption) q))⟩) | (rw [if_neg (by omega)]; exact ⟨by omega, by assumption⟩))
     | (refine B7 rfl (fun e => ?_); unfold Msg.OK at e; obtain ⟨e1, e2, e3, e4, e5, e6⟩ := e; first | omega | (rw [if_pos (by omega)] at e6; obtain ⟨f1, f2, f3⟩ := e6; first | omega | exact absurd (f3.2 (by omega)) (by first | assumption | (intro q; exact q (by assumption))) | exact absurd (f3.1 (by assumption)) (by omega)) | (rw [if_neg (by omega)] at e6; first | omega | exact absurd e6.2 (by assumption)))
    ·refine A2 ?_
     refine br ?_ ?_ <;> intro h1_26
     ·first
      | (refine C3 rfl ?_; unfold Msg.OK; refine ⟨by omega, by omega, by omega, by omega, by omega, ?_⟩; first | (rw [if_pos (by omega)]; exact ⟨by omega, by omega, (by constructor <;> intro q <;> first | assumption | exact absurd q (by assumption) | omega | (exact absurd (by assumption) q))⟩) | (rw [if_neg (by omega)]; exact ⟨by omega, by assumption⟩))
      | (refine B7 rfl (fun e => ?_); unfold Msg.OK at e; obtain ⟨e1, e2, e3, e4, e5, e6⟩ := e; first | omega | (rw [if_pos (by omega)] at e6; obtain ⟨f1, f2, f3⟩ := e6; first | omega | exact absurd (f3.2 (by omega)) (by first | assumption | (intro q; exact q (by assumption))) | exact absurd (f3.1 (by assumption)) (by omega)) | (rw [if_neg (by omega)] at e6; first | omega | exact absurd e6.2 (by assumption)))
     ·refine A2 ?_
      refine br ?_ ?_ <;> intro h4_0
      ·refine A2 ?_
       refine B8 (s50 _ _ _) rfl j2 ?_ ?_ <;> intro h5_2
       ·refine A2 ?_
        refine br ?_ ?_ <;> intro h5_7
        ·refine A2 ?_
         refine br ?_ ?_ <;> intro h5_12
         ·first
          | (refine C3 rfl ?_; unfold Msg.OK; refine ⟨by omega, by omega, by omega, by omega, by omega, ?_⟩; first | (rw [if_pos (by omega)]; exact ⟨by omega, by omega, (by constructor <;> intro q <;> first | assumption | exact absurd q (by assumption) | omega | (exact absurd (by assumption) q))⟩) | (rw [if_neg (by omega)]; exact ⟨by omega, by assumption⟩))
          | (refine B7 rfl (fun e => ?_); unfold Msg.OK at e; obtain ⟨e1, e2, e3, e4, e5, e6⟩ := e; first | omega | (rw [if_pos (by omega)] at e6; obtain ⟨f1, f2, f3⟩ := e6; first | omega | exact absurd (f3.2 (by omega)) (by first | assumption | (intro q; exact q (by assumption))) | exact absurd (f3.1 (by assumption)) (by omega)) | (rw [if_neg (by omega)] at e6; first | omega | exact absurd e6.2 (by assumption)))
         ·first
          | (refine C3 rfl ?_; unfold Msg.OK; refine ⟨by omega, by omega, by omega, by omega, by omega, ?_⟩; first | (rw [if_pos (by omega)]; exact ⟨by omega, by omega, (by constructor <;> intro q <;> first | assumption | exact absurd q (by assumption) | omega | (exact absurd (by assumption) q))⟩) | (rw [if_neg (by omega)]; exact ⟨by omega, by assumption⟩))
          | (refine B7 rfl (fun e => ?_); unfold Msg.OK at e; obtain ⟨e1, e2, e3, e4, e5, e6⟩ := e; first | omega | (rw [if_pos (by omega)] at e6; obtain ⟨f1, f2, f3⟩ := e6; first | omega | exact absurd (f3.2 (by omega)) (by first | assumption | (intro q; exact q (by assumption))) | exact absurd (f3.1 (by assumption)) (by omega)) | (rw [if_neg (by omega)] at e6; first | omega | exact absurd e6.2 (by assumption)))
        ·first
         | (refine C3 rfl ?_; unfold Msg.OK; refine ⟨by omega, by omega, by omega, by omega, by omega, ?_⟩; first | (rw [if_pos (by omega)]; exact ⟨by omega, by omega, (by constructor <;> intro q <;> first | assumption | exact absurd q (by assumption) | omega | (exact absurd (by assumption) q))⟩) | (rw [if_neg (by omega)]; exact ⟨by omega, by assumption⟩))
         | (refine B7 rfl (fun e => ?_); unfold Msg.OK at e; obtain ⟨e1, e2, e3, e4, e5, e6⟩ := e; first | omega | (rw [if_pos (by omega)] at e6; obtain ⟨f1, f2, f3⟩ := e6; first | omega | exact absurd (f3.2 (by omega)) (by first | assumption | (intro q; exact q (by assumption))) | exact absurd (f3.1 (by assumption)) (by omega)) | (rw [if_neg (by omega)] at e6; first | omega | exact absurd e6.2 (by assumption)))
       ·first
        | (refine C3 rfl ?_; unfold Msg.OK; refine ⟨by omega, by omega, by omega, by omega, by omega, ?_⟩; first | (rw [if_pos (by omega)]; exact ⟨by omega, by omega, (by constructor <;> intro q <;> first | assumption | exact absurd q (by assumption) | omega | (exact absurd (by assumption) q))⟩) | (rw [if_neg (by omega)]; exact ⟨by omega, by assumption⟩))
        | (refine B7 rfl (fun e => ?_); unfold Msg.OK at e; obtain ⟨e1, e2, e3, e4, e5, e6⟩ := e; first | omega | (rw [if_pos (by omega)] at e6; obtain ⟨f1, f2, f3⟩ := e6; first | omega | exact absurd (f3.2 (by omega)) (by first | assumption | (intro q; exact q (by assumption))) | exact absurd (f3.1 (by assumption)) (by omega)) | (rw [if_neg (by omega)] at e6; first | omega | exact absurd e6.2 (by assumption)))
      ·refine br ?_ ?_ <;> intro h6_0
       ·refine A2 ?_
        refine B8 (s50 _ _ _) rfl j2 ?_ ?_ <;> intro h8_2
        ·refine A2 ?_
         refine br ?_ ?_ <;> intro h8_7
         ·refine A2 ?_
          refine br ?_ ?_ <;> intro h8_12
          ·first
           | (refine C3 rfl ?_; unfold Msg.OK; refine ⟨by omega, by omega, by omega, by omega, by omega, ?_⟩; first | (rw [if_pos (by omega)]; exact ⟨by omega, by omega, (by constructor <;> intro q <;> first | assumption | exact absurd q (by assumption) | omega | (exact absurd (by assumption) q))⟩) | (rw [if_neg (by omega)]; exact ⟨by omega, by assumption⟩))
           | (refine B7 rfl (fun e => ?_); unfold Msg.OK at e; obtain ⟨e1, e2, e3, e4, e5, e6⟩ := e; first | omega | (rw [if_pos (by omega)] at e6; obtain ⟨f1, f2, f3⟩ := e6; first | omega | exact absurd (f3.2 (by omega)) (by first | assumption | (intro q; exact q (by assumption))) | exact absurd (f3.1 (by assumption)) (by omega)) | (rw [if_neg (by omega)] at e6; first | omega | exact absurd e6.2 (by assumption)))
          ·first
           | (refine C3 rfl ?_; unfold Msg.OK; refine ⟨by omega, by omega, by omega, by omega, by omega, ?_⟩; first | (rw [if_pos (by omega)]; exact ⟨by omega, by omega, (by constructor <;> intro q <;> first | assumption | exact absurd q (by assumption) | omega | (exact absurd (by assumption) q))⟩) | (rw [if_neg (by omega)]; exact ⟨by omega, by assumption⟩))
           | (refine B7 rfl (fun e => ?_); unfold Msg.OK at e; obtain ⟨e1, e2, e3, e4, e5, e6⟩ := e; first | omega | (rw [if_pos (by omega)] at e6; obtain ⟨f1, f2, f3⟩ := e6; first | omega | exact absurd (f3.2 (by omega)) (by first | assumption | (intro q; exact q (by assumption))) | exact absurd (f3.1 (by assumption)) (by omega)) | (rw [if_neg (by omega)] at e6; first | omega | exact absurd e6.2 (by assumption)))
         ·first
          | (refine C3 rfl ?_; unfold Msg.OK; refine ⟨by omega, by omega, by omega, by omega, by omega, ?_⟩; first | (rw [if_pos (by omega)]; exact ⟨by omega, by omega, (by constructor <;> intro q <;> first | assumption | exact absurd q (by assumption) | omega | (exact absurd (by assumption) q))⟩) | (rw [if_neg (by omega)]; exact ⟨by omega, by assumption⟩))
          | (refine B7 rfl (fun e => ?_); unfold Msg.OK at e; obtain ⟨e1, e2, e3, e4, e5, e6⟩ := e; first | omega | (rw [if_pos (by omega)] at e6; obtain ⟨f1, f2, f3⟩ := e6; first | omega | exact absurd (f3.2 (by omega)) (by first | assumption | (intro q; exact q (by assumption))) | exact absurd (f3.1 (by assumption)) (by omega)) | (rw [if_neg (by omega)] at e6; first | omega | exact absurd e6.2 (by assumption)))
        ·first
         | (refine C3 rfl ?_; unfold Msg.OK; refine ⟨by omega, by omega, by omega, by omega, by omega, ?_⟩; first | (rw [if_pos (by omega)]; exact ⟨by omega, by omega, (by constructor <;> intro q <;> first | assumption | exact absurd q (by assumption) | omega | (exact absurd (by assumption) q))⟩) | (rw [if_neg (by omega)]; exact ⟨by omega, by assumption⟩))
         | (refine B7 rfl (fun e => ?_); unfold Msg.OK at e; obtain ⟨e1, e2, e3, e4, e5, e6⟩ := e; first | omega | (rw [if_pos (by omega)] at e6; obtain ⟨f1, f2, f3⟩ := e6; first | omega | exact absurd (f3.2 (by omega)) (by first | assumption | (intro q; exact q (by assumption))) | exact absurd (f3.1 (by assumption)) (by omega)) | (rw [if_neg (by omega)] at e6; first | omega | exact absurd e6.2 (by assumption)))
       ·refine br ?_ ?_ <;> intro h7_0
        ·refine A2 ?_
         refine B8 (s50 _ _ _) rfl j2 ?_ ?_ <;> intro h8_2
         ·refine A2 ?_
          refine br ?_ ?_ <;> intro h8_7
          ·refine A2 ?_
           refine br ?_ ?_ <;> intro h8_12
           ·first
            | (refine C3 rfl ?_; unfold Msg.OK; refine ⟨by omega, by omega, by omega, by omega, by omega, ?_⟩; first | (rw [if_pos (by omega)]; exact ⟨by omega, by omega, (by constructor <;> intro q <;> first | assumption | exact absurd q (by assumption) | omega | (exact absurd (by assumption) q))⟩) | (rw [if_neg (by omega)]; exact ⟨by omega, by assumption⟩))
            | (refine B7 rfl (fun e => ?_); unfold Msg.OK at e; obtain ⟨e1, e2, e3, e4, e5, e6⟩ := e; first | omega | (rw [if_pos (by omega)] at e6; obtain ⟨f1, f2, f3⟩ := e6; first | omega | exact absurd (f3.2 (by omega)) (by first | assumption | (intro q; exact q (by assumption))) | exact absurd (f3.1 (by assumption)) (by omega)) | (rw [if_neg (by omega)] at e6; first | omega | exact absurd e6.2 (by assumption)))
           ·first
            | (refine C3 rfl ?_; unfold Msg.OK; refine ⟨by omega, by omega, by omega, by omega, by omega, ?_⟩; first | (rw [if_pos (by omega)]; exact ⟨by omega, by omega, (by constructor <;> intro q <;> first | assumption | exact absurd q (by assumption) | omega | (exact absurd (by assumption) q))⟩) | (rw [if_neg (by omega)]; exact ⟨by omega, by assumption⟩))
            | (refine B7 rfl (fun e => ?_); unfold Msg.OK at e; obtain ⟨e1, e2, e3, e4, e5, e6⟩ := e; first | omega | (rw [if_pos (by omega)] at e6; obtain ⟨f1, f2, f3⟩ := e6; first | omega | exact absurd (f3.2 (by omega)) (by first | assumption | (intro q; exact q (by assumption))) | exact absurd (f3.1 (by assumption)) (by omega)) | (rw [if_neg (by omega)] at e6; first | omega | exact absurd e6.2 (by assumption)))
          ·first
           | (refine C3 rfl ?_; unfold Msg.OK; refine ⟨by omega, by omega, by omega, by omega, by omega, ?_⟩; first | (rw [if_pos (by omega)]; exact ⟨by omega, by omega, (by constructor <;> intro q <;> first | assumption | exact absurd q (by assumption) | omega | (exact absurd (by assumption) q))⟩) | (rw [if_neg (by omega)]; exact ⟨by omega, by assumption⟩))
           | (refine B7 rfl (fun e => ?_); unfold Msg.OK at e; obtain ⟨e1, e2, e3, e4, e5, e6⟩ := e; first | omega | (rw [if_pos (by omega)] at e6; obtain ⟨f1, f2, f3⟩ := e6; first | omega | exact absurd (f3.2 (by omega)) (by first | assumption | (intro q; exact q (by assumption))) | exact absurd (f3.1 (by assumption)) (by omega)) | (rw [if_neg (by omega)] at e6; first | omega | exact absurd e6.2 (by assumption)))
         ·first
          | (refine C3 rfl ?_; unfold Msg.OK; refine ⟨by omega, by omega, by omega, by omega, by omega, ?_⟩; first | (rw [if_pos (by omega)]; exact ⟨by omega, by omega, (by constructor <;> intro q <;> first | assumption | exact absurd q (by assumption) | omega | (exact absurd (by assumption) q))⟩) | (rw [if_neg (by omega)]; exact ⟨by omega, by assumption⟩))
          | (refine B7 rfl (fun e => ?_); unfold Msg.OK at e; obtain ⟨e1, e2, e3, e4, e5, e6⟩ := e; first | omega | (rw [if_pos (by omega)] at e6; obtain ⟨f1, f2, f3⟩ := e6; first | omega | exact absurd (f3.2 (by omega)) (by first | assumption | (intro q; exact q (by assumption))) | exact absurd (f3.1 (by assumption)) (by omega)) | (rw [if_neg (by omega)] at e6; first | omega | exact absurd e6.2 (by assumption)))
        ·refine A2 ?_
         refine br ?_ ?_ <;> intro h9_2
         ·refine A2 ?_
          refine br ?_ ?_ <;> intro h9_6
          ·first
           | (refine C3 rfl ?_; unfold Msg.OK; refine ⟨by omega, by omega, by omega, by omega, by omega, ?_⟩; first | (rw [if_pos (by omega)]; exact ⟨by omega, by omega, (by constructor <;> intro q <;> first | assumption | exact absurd q (by assumption) | omega | (exact absurd (by assumption) q))⟩) | (rw [if_neg (by omega)]; exact ⟨by omega, by assumption⟩))
           | (refine B7 rfl (fun e => ?_); unfold Msg.OK at e; obtain ⟨e1, e2, e3, e4, e5, e6⟩ := e; first | omega | (rw [if_pos (by omega)] at e6; obtain ⟨f1, f2, f3⟩ := e6; first | omega | exact absurd (f3.2 (by omega)) (by first | assumption | (intro q; exact q (by assumption))) | exact absurd (f3.1 (by assumption)) (by omega)) | (rw [if_neg (by omega)] at e6; first | omega | exact absurd e6.2 (by assumption)))
          ·first
           | (refine C3 rfl ?_; unfold Msg.OK; refine ⟨by omega, by omega, by omega, by omega, by omega, ?_⟩; first | (rw [if_pos (by omega)]; exact ⟨by omega, by omega, (by constructor <;> intro q <;> first | assumption | exact absurd q (by assumption) | omega | (exact absurd (by assumption) q))⟩) | (rw [if_neg (by omega)]; exact ⟨by omega, by assumption⟩))
           | (refine B7 rfl (fun e => ?_); unfold Msg.OK at e; obtain ⟨e1, e2, e3, e4, e5, e6⟩ := e; first | omega | (rw [if_pos (by omega)] at e6; obtain ⟨f1, f2, f3⟩ := e6; first | omega | exact absurd (f3.2 (by omega)) (by first | assumption | (intro q; exact q (by assumption))) | exact absurd (f3.1 (by assumption)) (by omega)) | (rw [if_neg (by omega)] at e6; first | omega | exact absurd e6.2 (by assumption)))
         ·first
          | (refine C3 rfl ?_; unfold Msg.OK; refine ⟨by omega, by omega, by omega, by omega, by omega, ?_⟩; first | (rw [if_pos (by omega)]; exact ⟨by omega, by omega, (by constructor <;> intro q <;> first | assumption | exact absurd q (by assumption) | omega | (exact absurd (by assumption) q))⟩) | (rw [if_neg (by omega)]; exact ⟨by omega, by assumption⟩))
          | (refine B7 rfl (fun e => ?_); unfold Msg.OK at e; obtain ⟨e1, e2, e3, e4, e5, e6⟩ := e; first | omega | (rw [if_pos (by omega)] at e6; obtain ⟨f1, f2, f3⟩ := e6; first | omega | exact absurd (f3.2 (by omega)) (by first | assumption | (intro q; exact q (by assumption))) | exact absurd (f3.1 (by assumption)) (by omega)) | (rw [if_neg (by omega)] at e6; first | omega | exact absurd e6.2 (by assumption)))
   ·first
    | (refine C3 rfl ?_; unfold Msg.OK; refine ⟨by omega, by omega, by omega, by omega, by omega, ?_⟩; first | (rw [if_pos (by omega)]; exact ⟨by omega, by omega, (by constructor <;> intro q <;> first | assumption | exact absurd q (by assumption) | omega | (exact absurd (by assumption) q))⟩) | (rw [if_neg (by omega)]; exact ⟨by omega, by assumption⟩))
    | (refine B7 rfl (fun e => ?_); unfold Msg.OK at e; obtain ⟨e1, e2, e3, e4, e5, e6⟩ := e; first | omega | (rw [if_pos (by omega)] at e6; obtain ⟨f1, f2, f3⟩ := e6; first | omega | exact absurd (f3.2 (by omega)) (by first | assumption | (intro q; exact q (by assumption))) | exact absurd (f3.1 (by assumption)) (by omega)) | (rw [if_neg (by omega)] at e6; first | omega | exact absurd e6.2 (by assumption)))
  ·first
   | (refine C3 rfl ?_; unfold Msg.OK; refine ⟨by omega, by omega, by omega, by omega, by omega, ?_⟩; first | (rw [if_pos (by omega)]; exact ⟨by omega, by omega, (by constructor <;> intro q <;> first | assumption | exact absurd q (by assumption) | omega | (exact absurd (by assumption) q))⟩) | (rw [if_neg (by omega)]; exact ⟨by omega, by assumption⟩))
   | (refine B7 rfl (fun e => ?_); unfold Msg.OK at e; obtain ⟨e1, e2, e3, e4, e5, e6⟩ := e; first | omega | (rw [if_pos (by omega)] at e6; obtain ⟨f1, f2, f3⟩ := e6; first | omega | exact absurd (f3.2 (by omega)) (by first | assumption | (intro q; exact q (by assumption))) | exact absurd (f3.1 (by assumption)) (by omega)) | (rw [if_neg (by omega)] at e6; first | omega | exact absurd e6.2 (by assumption)))
 ·first
  | (refine C3 rfl ?_; unfold Msg.OK; refine ⟨by omega, by omega, by omega, by omega, by omega, ?_⟩; first | (rw [if_pos (by omega)]; exact ⟨by omega, by omega, (by constructor <;> intro q <;> first | assumption | exact absurd q (by assumption) | omega | (exact absurd (by assumption) q))⟩) | (rw [if_neg (by omega)]; exact ⟨by omega, by assumption⟩))
  | (refine B7 rfl (fun e => ?_); unfold Msg.OK at e; obtain ⟨e1, e2, e3, e4, e5, e6⟩ := e; first | omega | (rw [if_pos (by omega)] at e6; obtain ⟨f1, f2, f3⟩ := e6; first | omega | exact absurd (f3.2 (by omega)) (by first | assumption | (intro q; exact q (by assumption))) | exact absurd (f3.1 (by assumption)) (by omega)) | (rw [if_neg (by omega)] at e6; first | omega | exact absurd e6.2 (by assumption)))
theorem r222 (x : Bt) (b : Bool) : Pure En 222 [.agg (x.T b)] [.one (.bool (decide x.OK))] := by
 have hl : (x.rs.map Rg.T).length = x.rs.length := List.length_map ..
 refine Pure.of_ev (st := []) Tryz.func222 rfl kb ?_
 refine A2 ?_
 refine brB ?_ ?_ <;> intro h1_1
 ·(apply D2 (vs := [.int _ _, .int _ _, .int _ _, .int _ _, .str _]) j2; exact Q0; rfl; rfl; exact kb; rfl)
  refine eSeql j3 (by kernel_rfl) (eqRqZ x.rq) ?_ ?_ <;> intro h2_3
  ·refine A2 ?_
   refine br ?_ ?_ <;> intro h2_8
   ·first
    | (refine C3 rfl ?_; unfold Bt.OK; rw [if_pos h1_1]; exact ⟨of_decide_eq_true h2_3, by omega⟩)
    | (refine B7 rfl (fun e => ?_); unfold Bt.OK at e; rw [if_pos h1_1] at e; first | exact absurd e.1 (of_decide_eq_false h2_3) | (have := e.2; omega))
   ·first
    | (refine C3 rfl ?_; unfold Bt.OK; rw [if_pos h1_1]; exact ⟨of_decide_eq_true h2_3, by omega⟩)
    | (refine B7 rfl (fun e => ?_); unfold Bt.OK at e; rw [if_pos h1_1] at e; first | exact absurd e.1 (of_decide_eq_false h2_3) | (have := e.2; omega))
  ·first
   | (refine C3 rfl ?_; unfold Bt.OK; rw [if_pos h1_1]; exact ⟨of_decide_eq_true h2_3, by omega⟩)
   | (refine B7 rfl (fun e => ?_); unfold Bt.OK at e; rw [if_pos h1_1] at e; first | exact absurd e.1 (of_decide_eq_false h2_3) | (have := e.2; omega))
 ·(apply D2 (vs := [.int _ _, .int _ _, .int _ _, .int _ _, .str _]) j2; exact Q0; rfl; rfl; exact kb; rfl)
  refine B8 (s52 x.rq) rfl j2 ?_ ?_ <;> intro h3_2
  ·refine A2 ?_
   refine br ?_ ?_ <;> intro h3_8
   ·refine B7 rfl (fun e => ?_); unfold Bt.OK at e; rw [if_neg (by rw [h1_1]; exact Bool.noConfusion)] at e; first | exact absurd e.1 h3_2 | (have := e.2.1; omega)
   ·refine A9 (fun (i : Nat) => [.unk, .ptr 0 0 0, .unk, .int .i64 i]) (fun (i : Nat) => hp [(0, ⟨[[.bool x.nl, .int .i64 x.rq.cl, .int .i64 x.rq.st, .int .i64 x.rq.kd, .int .i64 x.rq.le, .str x.rq.nm, .sl false b (x.rs.map Rg.T)]], 7, 200⟩)]) (fun (i : Nat) => 1) (fun (i : Nat) => i ≤ x.rs.length ∧ ∀ j, j < i → (x.rs.getD j Rg0).OK ∧ (0 < j → (x.rs.getD (j - 1) Rg0).fr < (x.rs.getD j Rg0).fr)) (fun (i : Nat) => x.rs.length - i) 0 ?_ ?_ ?_ ?_ ?_
    ·exact ⟨Nat.zero_le _, F6⟩
    ·(repeat first | exact LE.nil _ | refine LE.unk _ _ ?_ | refine LE.eq _ _ _ rfl ?_)
    ·(repeat first | exact A5 | (refine A6 ?_ ?_; exact H3))
    ·exact Nat.le_refl _
    intro i hI ih
    obtain ⟨q0, q2⟩ := hI
    refine A3 (st := []) ?_
    refine A2 ?_
    refine br ?_ ?_ <;> intro h6_4
    ·refine A2 ?_
     (refine C0 (D1 (by first | rfl | assumption | exact Q31) rfl ?_))
     refine B8 (r223 (x.rs.getD i Rg0)) rfl j2 ?_ ?_ <;> intro h8_5
     ·refine br ?_ ?_ <;> intro h8_9
      ·refine A2 ?_
       refine C1 ?_
       (refine C0 (D1 (by first | rfl | assumption | exact Q31) rfl ?_))
       refine A2 ?_
       (refine C0 (D1 (by first | rfl | assumption | exact Q31) rfl ?_))
       refine br ?_ ?_ <;> intro h8_24
       ·refine B7 rfl (fun e => ?_); unfold Bt.OK at e; rw [if_neg (by rw [h1_1]; exact Bool.noConfusion)] at e; first | exact absurd (e.2.2 i (by omega)).1 h8_5 | (have := (e.2.2 i (by omega)).2 (by omega); omega)
       ·refine C1 ?_
        exact C9 (ih (i + 1) ⟨by omega, E0 q2 ⟨h8_5, fun _ => by omega⟩⟩ (by omega)) (by (repeat first | exact LE.nil _ | refine LE.unk _ _ ?_ | refine LE.eq _ _ _ rfl ?_)) (by (repeat first | exact A5 | (refine A6 ?_ ?_; exact H3))) (Nat.le_refl _)
      ·refine C1 ?_
       exact C9 (ih (i + 1) ⟨by omega, E0 q2 ⟨h8_5, fun _ => by omega⟩⟩ (by omega)) (by (repeat first | exact LE.nil _ | refine LE.unk _ _ ?_ | refine LE.eq _ _ _ rfl ?_)) (by (repeat first | exact A5 | (refine A6 ?_ ?_; exact H3))) (Nat.le_refl _)
     ·refine B7 rfl (fun e => ?_); unfold Bt.OK at e; rw [if_neg (by rw [h1_1]; exact Bool.noConfusion)] at e; first | exact absurd (e.2.2 i (by omega)).1 h8_5 | (have := (e.2.2 i (by omega)).2 (by omega); omega)
    ·refine C3 rfl ?_; unfold Bt.OK; rw [if_neg (by rw [h1_1]; exact Bool.noConfusion)]; exact ⟨h3_2, by omega, fun j hj => q2 j (by omega)⟩
  ·refine B7 rfl (fun e => ?_); unfold Bt.OK at e; rw [if_neg (by rw [h1_1]; exact Bool.noConfusion)] at e; first | exact absurd e.1 h3_2 | (have := e.2.1; omega)
open Go.V
set_option linter.unusedVariables false
set_option linter.unusedSimpArgs false
set_option maxRecDepth 20000
set_option maxHeartbeats 4000000
noncomputable instance dcRL (p : ByteArray) : Decidable (rqL p 0 ∧ (rqC p 0).OK) := Classical.propDecidable _
noncomputable def rqR (p : ByteArray) : Rq := if rqL p 0 then rqC p 0 else RqZ
def rqB (p : ByteArray) : Rq := ⟨bt p 0, num (p.extract 1 3) 0 (p.extract 1 3).size, bt p 3, num (p.extract 4 6) 0 (p.extract 4 6).size, p.extract 7 p.size⟩
theorem rqB_eq {p : ByteArray} (h : 7 ≤ p.size) : rqB p = rqC p 0 := by
 unfold rqB rqC
 rw [C8 (by omega), C8 (by omega), G3 (by omega) (by omega), G3 (by omega) (by omega), num_1, num_1]
theorem Y8 {p : ByteArray} : rqL p 0 ↔ 7 ≤ p.size ∧ (p.size : Int) = 7 + bt p 6 := by
 unfold rqL
 rw [Nat.zero_add, Nat.zero_add, num_1]
 constructor <;> intro h <;> exact ⟨by omega, by have := h.2; omega⟩
theorem r220 (s : ByteArray) (h : s.size ≤ 6) : Pure En 220 [.one (.str s)] [.one (.int .i64 (num s 0 s.size))] := by
 refine Pure.of_ev (st := []) Tryz.func220 rfl kb ?_
 refine A9 (fun (i : Nat) => [.str s, .unk, .unk, .int .i64 (num s 0 i), .int .i64 i]) (fun (i : Nat) => fun _ => none) (fun (i : Nat) => 0) (fun (i : Nat) => i ≤ s.size) (fun (i : Nat) => s.size - i) 0 ?_ ?_ ?_ ?_ ?_
 ·exact Nat.zero_le _
 ·(repeat first | exact LE.nil _ | refine LE.unk _ _ ?_ | refine LE.eq _ _ _ rfl ?_)
 ·exact LessH.refl _
 ·exact Nat.le_refl _
 intro i hI ih
 have hn0 := N7 s 0 i
 have hn1 := num_lt s 0 i (by omega)
 have hb0 := U9 s i
 have hb1 := F5 s i
 have hst := num_s s i
 have hb2 := U9 s ((i : Int)).toNat
 have hb3 := F5 s ((i : Int)).toNat
 refine A3 (st := []) ?_
 refine br ?_ ?_ <;> intro h3_3
 ·refine E2 ⟨by exact Q6, by exact Q6⟩ ?_
  refine sd (by first | exact (by exact Q6) | exact ⟨by exact Q6, by exact Q6⟩) ?_
  refine cvF ⟨by exact Q24, by exact Q24⟩ ?_
  refine E2 ⟨by exact Q6, by exact Q6⟩ ?_
  refine E2 ⟨by exact Q6, by exact Q6⟩ ?_
  exact C9 (ih (i + 1) (by omega) (by omega)) (by (repeat first | exact LE.nil _ | refine LE.unk _ _ ?_ | refine LE.eq _ _ _ rfl ?_ | refine LE.eq _ _ _ (congrArg (V.int IntKind.i64) hst.symm) ?_)) (LessH.refl _) (Nat.le_refl _)
 ·obtain rfl : i = s.size := by omega
  exact C2 rfl rfl
theorem r221 (p : ByteArray) (hp : p.size ≤ 1000000) : Pure En 221 [.one (.str p)] [.agg (rqR p).T, .one (.bool (decide (rqL p 0 ∧ (rqC p 0).OK)))] := by
 refine Pure.of_ev (st := []) Tryz.func221 rfl kb ?_
 have hb6a := U9 p 6
 have hb6b := F5 p 6
 refine br ?_ ?_ <;> intro h1_2
 ·(apply est (u := .agg [.int _ _, .int _ _, .int _ _, .int _ _, .str _]) j3; exact Q0; rfl; exact j2; rfl; rfl; exact kb; rfl)
  have hno : ¬ rqL p 0 := by rw [Y8]; omega
  rw [show rqR p = RqZ from if_neg hno, decide_eq_false (fun e => hno e.1)]
  refine D3 [] (A0 (A4 rfl (by exact Q0) j2 kb rfl) (A0 rfl A1)) ?_
  exact (SnapL.cons _ _ _ _ (SnapC.agg (.cons _ _ _ _ (.int _ _) (.cons _ _ _ _ (.int _ _) (.cons _ _ _ _ (.int _ _) (.cons _ _ _ _ (.int _ _) (.cons _ _ _ _ (.str _) .nil)))))) (SnapL.cons _ _ _ _ (.one _ _ (.bool _)) SnapL.nil))
 ·refine lit 6 rfl (sd (by first | omega | exact Int.ofNat_lt.1 (by exact Q6)) ?_)
  refine cvF ⟨by exact Q24, by exact Q24⟩ ?_
  refine E2 ⟨by exact Q6, by exact Q6⟩ ?_
  refine br ?_ ?_ <;> intro h1_10
  ·(apply est (u := .agg [.int _ _, .int _ _, .int _ _, .int _ _, .str _]) j3; exact Q0; rfl; exact j2; rfl; rfl; exact kb; rfl)
   have hno : ¬ rqL p 0 := by rw [Y8]; omega
   rw [show rqR p = RqZ from if_neg hno, decide_eq_false (fun e => hno e.1)]
   refine D3 [] (A0 (A4 rfl (by exact Q0) j2 kb rfl) (A0 rfl A1)) ?_
   exact (SnapL.cons _ _ _ _ (SnapC.agg (.cons _ _ _ _ (.int _ _) (.cons _ _ _ _ (.int _ _) (.cons _ _ _ _ (.int _ _) (.cons _ _ _ _ (.int _ _) (.cons _ _ _ _ (.str _) .nil)))))) (SnapL.cons _ _ _ _ (.one _ _ (.bool _)) SnapL.nil))
  ·refine lit 0 rfl (sd (by first | omega | exact Int.ofNat_lt.1 (by exact Q6)) ?_)
   refine cvF ⟨by exact Q24, by exact Q24⟩ ?_
   refine sd ⟨by exact Q6, by exact Q6, by exact Q6⟩ ?_
   refine C5 (r220 (p.extract 1 3) (by rw [C8 (by omega)]; omega)) rfl rfl rfl ?_
   refine lit 3 rfl (sd (by first | omega | exact Int.ofNat_lt.1 (by exact Q6)) ?_)
   refine cvF ⟨by exact Q24, by exact Q24⟩ ?_
   refine sd ⟨by exact Q6, by exact Q6, by exact Q6⟩ ?_
   refine C5 (r220 (p.extract 4 6) (by rw [C8 (by omega)]; omega)) rfl rfl rfl ?_
   refine sd ⟨by exact Q6, by exact Q6, by exact Q6⟩ ?_
   (apply est (u := .agg [.int _ _, .int _ _, .int _ _, .int _ _, .str _]) j3; exact Q0; rfl; exact j2; rfl; rfl; exact kb; rfl)
   refine N8 ?_
   (apply D2 (vs := [.int _ _, .int _ _, .int _ _, .int _ _, .str _]) j2; exact Q0; rfl; rfl; exact kb; rfl)
   (apply D2 (vs := [.int _ _, .int _ _, .int _ _, .int _ _, .str _]) j2; exact Q0; rfl; rfl; exact kb; rfl)
   refine B8 (s52 (rqB p)) rfl j2 ?_ ?_ <;> intro h4_2
   ·(apply est (u := .agg [.int _ _, .int _ _, .int _ _, .int _ _, .str _]) j3; exact Q0; rfl; exact j2; rfl; rfl; exact kb; rfl)
    refine N8 ?_
    have hyes : rqL p 0 := by rw [Y8]; omega
    have he : rqB p = rqC p 0 := rqB_eq (by omega)
    rw [show rqR p = rqB p from (if_pos hyes).trans he.symm]
    first
    | rw [decide_eq_true (show rqL p 0 ∧ (rqC p 0).OK from ⟨hyes, by rw [← he]; exact h4_2⟩)]
    | rw [decide_eq_false (show ¬ (rqL p 0 ∧ (rqC p 0).OK) from fun e => h4_2 (by rw [he]; exact e.2))]
    refine D3 [] (A0 (A4 rfl (by exact Q0) j2 kb rfl) (A0 rfl A1)) ?_
    exact (SnapL.cons _ _ _ _ (SnapC.agg (.cons _ _ _ _ (.int _ _) (.cons _ _ _ _ (.int _ _) (.cons _ _ _ _ (.int _ _) (.cons _ _ _ _ (.int _ _) (.cons _ _ _ _ (.str _) .nil)))))) (SnapL.cons _ _ _ _ (.one _ _ (.bool _)) SnapL.nil))
   ·(apply est (u := .agg [.int _ _, .int _ _, .int _ _, .int _ _, .str _]) j3; exact Q0; rfl; exact j2; rfl; rfl; exact kb; rfl)
    refine N8 ?_
    have hyes : rqL p 0 := by rw [Y8]; omega
    have he : rqB p = rqC p 0 := rqB_eq (by omega)
    rw [show rqR p = rqB p from (if_pos hyes).trans he.symm]
    first
    | rw [decide_eq_true (show rqL p 0 ∧ (rqC p 0).OK from ⟨hyes, by rw [← he]; exact h4_2⟩)]
    | rw [decide_eq_false (show ¬ (rqL p 0 ∧ (rqC p 0).OK) from fun e => h4_2 (by rw [he]; exact e.2))]
    refine D3 [] (A0 (A4 rfl (by exact Q0) j2 kb rfl) (A0 rfl A1)) ?_
    exact (SnapL.cons _ _ _ _ (SnapC.agg (.cons _ _ _ _ (.int _ _) (.cons _ _ _ _ (.int _ _) (.cons _ _ _ _ (.int _ _) (.cons _ _ _ _ (.int _ _) (.cons _ _ _ _ (.str _) .nil)))))) (SnapL.cons _ _ _ _ (.one _ _ (.bool _)) SnapL.nil))
open Go.V
set_option linter.unusedVariables false
set_option linter.unusedSimpArgs false
set_option maxRecDepth 20000
set_option maxHeartbeats 4000000
theorem r153 (b : ByteArray) (hb : b.size ≤ 900000) : Pure En 153 [.one (.str b)] [.one (.str (dgB b))] := by
 refine Pure.of_ev (st := []) Tryz.func153 rfl kb ?_
 refine sd (by (first | omega | assumption | (show 5 + _ ≤ _; omega))) ?_
 refine ebt j5 ?_
 apply U4 [0] (s103s true (litB ++ b) (by rw [ByteArray.size_append]; show 5 + _ ≤ _; omega)) rfl rfl rfl
 ·refine SnapL.cons _ _ _ _ (.one _ _ (snapS (List.mem_singleton.2 rfl) ?_ rfl)) SnapL.nil
  exact Q0
 exact C2 rfl rfl
open Go.V
set_option linter.unusedVariables false
set_option linter.unusedSimpArgs false
set_option maxRecDepth 20000
set_option maxHeartbeats 4000000
def ckL (vl : Int) : List Int := [99, 108, 111, 99, 107] ++ numL vl 4
theorem ckL_str (vl : Int) : V.strOw (ckL vl) = litC ++ Nm vl 4 := by
 unfold ckL; rw [F4, X9]; rfl
theorem ckL_len (vl : Int) : (ckL vl).length = 9 := by unfold ckL; rw [List.length_append, C4]; rfl
theorem ckL_bytes (vl : Int) : bytes (ckL vl) := L4 (fun b hb => by simp at hb; omega) (T4 vl 4 (by decide))
theorem r224 (fr vl : Int) : Pure En 224 [.one (.int .i64 fr), .one (.int .i64 vl)] [.one (.str (rdM fr vl))] := by
 refine Pure.of_ev (st := []) Tryz.func224 rfl kb ?_
 refine F2 (es := [[.int _ _], [.int _ _], [.int _ _], [.int _ _], [.int _ _]]) j4 kz kb rfl rfl ?_
 (apply emk8 j2; exact Q0; rfl; exact ⟨rfl, rfl⟩)
 refine C5 (s105 vl 4 (by decide)) rfl rfl rfl ?_
 (apply eap (s' := 1) rfl rfl; exact Q0; exact j2; (first | rfl | (focus (simp only [List.length_append, List.length_drop, List.length_map, List.length_cons, List.length_nil, C4, Nat.sub_zero, Nat.zero_add]; done)) | (focus (simp only [List.length_append, List.length_drop, List.length_map, List.length_cons, List.length_nil, C4, Nat.sub_zero, Nat.zero_add]; omega))); exact j2; exact kz; rfl; exact (lenBf true (numL vl 4)); (first | exact kb | (focus (simp only [List.length_append, List.length_drop, List.length_map, List.length_cons, List.length_nil, C4, Nat.sub_zero, Nat.zero_add]; omega)) | omega); (first | exact kb | (focus (simp only [List.length_append, List.length_drop, List.length_map, List.length_cons, List.length_nil, C4, Nat.sub_zero, Nat.zero_add]; omega)) | omega))
 apply U4 [1] (s91 fr true (ckL vl) (by rw [ckL_len]; decide) (ckL_bytes vl)) rfl rfl rfl
 ·refine SnapL.cons _ _ _ _ (.one _ _ (.int _ _)) (SnapL.cons _ _ _ _ (.one _ _ (snapB (List.mem_singleton.2 rfl) ?_ ?_)) SnapL.nil)
  ·((simp (disch := omega) only [↓app0, ↓appC, ↓updS, ↓updN, ↓hpS, ↓hpN]); exact congrArg (fun z => some (Blk.mk z 1 5)) (by unfold ckL; rw [List.map_append, X0]; rfl))
  ·(rw [ckL_len]; (first | rfl | (focus (simp only [List.length_append, List.length_drop, List.length_map, List.length_cons, List.length_nil, C4, Nat.sub_zero, Nat.zero_add]; done)) | (focus (simp only [List.length_append, List.length_drop, List.length_map, List.length_cons, List.length_nil, C4, Nat.sub_zero, Nat.zero_add]; omega))))
 unfold rdM; rw [← ckL_str]; exact C2 rfl rfl
open Go.V
set_option linter.unusedVariables false
set_option linter.unusedSimpArgs false
set_option maxRecDepth 20000
set_option maxHeartbeats 4000000
theorem strLen1 (s : ByteArray) : ∀ c ∈ (s.data.toList.map fun b => [V.int .u8 (b.toNat : Int)]), c.length = 1 := by simp
def plnL (m : Msg) : List Int := [IntKind.u8.wrap m.kd, IntKind.u8.wrap m.vw, IntKind.u8.wrap m.sq, IntKind.u8.wrap m.fr, IntKind.u8.wrap m.dg.size] ++ byt m.dg ++ numL m.bd.size 2 ++ byt m.bd
theorem plnL_str (m : Msg) : V.strOw (plnL m) = bare m := by
 unfold plnL bare
 rw [F4, F4, F4, X3, X3, X9, X9, X9, X9, X9, X9, numL1, numL1, numL1, numL1, numL1, ← F4, ← F4, ← F4, ← F4]; rfl
theorem plnL_bytes (m : Msg) : bytes (plnL m) := by
 unfold plnL
 refine L4 (L4 (L4 (fun b hb => ?_) (X2 _)) (T4 _ 2 (by decide))) (X2 _)
 simp only [List.mem_cons, List.not_mem_nil, or_false] at hb
 rcases hb with h | h | h | h | h <;> (rw [h]; exact u8_in _)
theorem plnL_len (m : Msg) : (plnL m).length = 7 + m.dg.size + m.bd.size := by
 unfold plnL; rw [List.length_append, List.length_append, List.length_append, C4, E4, E4]; show 5 + _ + _ + _ = _; omega
theorem datLen (s : ByteArray) : s.data.toList.length = s.size := rfl
theorem datLen2 (s : ByteArray) : s.data.size = s.size := rfl
theorem r167 (m : Msg) (hd : m.dg.size ≤ 1000) (hb : m.bd.size ≤ 20000) : Pure En 167 [.agg m.T] [.one (.sl true ((plnL m).map bT))] := by
 refine Pure.of_ev (st := []) Tryz.func167 rfl kb ?_
 refine A2 ?_
 refine A2 ?_
 refine A2 ?_
 refine A2 ?_
 refine A2 ?_
 refine F2 (es := [[.int _ _], [.int _ _], [.int _ _], [.int _ _], [.int _ _]]) j4 kz kb rfl rfl ?_
 refine A2 ?_
 (apply eap (s' := 1) rfl rfl; exact Q0; exact j2; exact Q26; exact j2; exact kz; rfl; exact (strLen1 m.dg); exact Q25; exact Q25)
 refine A2 ?_
 refine C5 (s105 m.bd.size 2 (by decide)) rfl rfl rfl ?_
 (apply eap (s' := 1) rfl rfl; exact Q0; exact j2; exact Q26; exact j2; exact kz; rfl; exact (lenBf true (numL m.bd.size 2)); exact Q25; exact Q25)
 refine clr 10 [0, 3, 0, 0, 1, 0, 3, 1, 0, 0] [(3, 5)] j2 (by decide +kernel) ?_ ?_
 ·first | (simp [ClearL, ids]; done) | (simp [ClearL, ids]; omega) | (simp [ClearL, ids, srcIds, Env.eval, put, upd, retV, A.toV, T.toV]; try omega)
 refine A2 ?_
 (apply eap (s' := 1) rfl rfl; exact Q0; exact j2; exact Q26; exact j2; exact kz; rfl; exact (strLen1 m.bd); exact Q25; exact Q25)
 refine D3 [4] (A0 rfl A1) (SnapL.cons _ _ _ _ (.one _ _ (snapB (List.mem_singleton.2 rfl) ?_ ?_)) SnapL.nil)
 ·((simp (disch := omega) only [↓app0, ↓appC, ↓updS, ↓updN, ↓hpS, ↓hpN]); exact congrArg (fun z => some (Blk.mk z 1 5)) (by unfold plnL; rw [List.map_append, List.map_append, List.map_append, ← I6, ← I6, List.drop_zero, List.drop_zero, List.drop_zero, X0]; rfl))
 ·(rw [plnL_len]; exact Q26)
open Go.V
set_option linter.unusedVariables false
set_option linter.unusedSimpArgs false
set_option maxRecDepth 20000
set_option maxHeartbeats 4000000
noncomputable instance dcSg2 (n : Int) (m : Msg) : Decidable (sgd mk bare n m) := Classical.propDecidable _
theorem r93 (n : Int) (m : Msg) : Pure En 93 [.one (.int .i64 n), .agg m.T] [.one (.bool (decide (sgd mk bare n m)))] := by
 refine Pure.of_ev (st := []) Tryz.func93 rfl kb ?_
 (apply D2 (vs := [.int _ _, .int _ _, .int _ _, .int _ _, .str _, .str _, .str _]) j2; exact Q0; rfl; rfl; exact kb; rfl)
 refine B8 (r165 m) rfl j2 ?_ ?_ <;> intro h1_1
 ·refine A2 ?_
  refine br ?_ ?_ <;> intro h1_6
  ·refine A2 ?_
   (apply D2 (vs := [.int _ _, .int _ _, .int _ _, .int _ _, .str _, .str _, .str _]) j2; exact Q0; rfl; rfl; exact kb; rfl)
   refine C5 (r167 m (by have := h1_1.dz; omega) h1_1.2.2.2.2.1) rfl rfl rfl ?_
   refine C5 (s91 m.fr true (plnL m) (by rw [plnL_len]; have := h1_1.dz; have := h1_1.2.2.2.2.1; omega) (plnL_bytes m)) rfl rfl rfl ?_
   refine A2 ?_
   refine br ?_ ?_ <;> intro h1_16
   ·first
    | (refine C3 rfl ?_; exact ⟨by assumption, by assumption, by rw [← plnL_str]; exact Eq.symm (by assumption)⟩)
    | (refine B7 rfl ?_; rintro ⟨q1, q2, q3⟩; rw [← plnL_str] at q3; first | exact absurd q1 (by assumption) | exact absurd q2 (by assumption) | exact absurd q3.symm (by assumption))
   ·first
    | (refine C3 rfl ?_; exact ⟨by assumption, by assumption, by rw [← plnL_str]; exact Eq.symm (by assumption)⟩)
    | (refine B7 rfl ?_; rintro ⟨q1, q2, q3⟩; rw [← plnL_str] at q3; first | exact absurd q1 (by assumption) | exact absurd q2 (by assumption) | exact absurd q3.symm (by assumption))
  ·first
   | (refine C3 rfl ?_; exact ⟨by assumption, by assumption, by rw [← plnL_str]; exact Eq.symm (by assumption)⟩)
   | (refine B7 rfl ?_; rintro ⟨q1, q2, q3⟩; rw [← plnL_str] at q3; first | exact absurd q1 (by assumption) | exact absurd q2 (by assumption) | exact absurd q3.symm (by assumption))
 ·first
  | (refine C3 rfl ?_; exact ⟨by assumption, by assumption, by rw [← plnL_str]; exact Eq.symm (by assumption)⟩)
  | (refine B7 rfl ?_; rintro ⟨q1, q2, q3⟩; rw [← plnL_str] at q3; first | exact absurd q1 (by assumption) | exact absurd q2 (by assumption) | exact absurd q3.symm (by assumption))
open Go.V
set_option linter.unusedVariables false
set_option linter.unusedSimpArgs false
set_option maxRecDepth 20000
set_option maxHeartbeats 4000000
def mR (p : ByteArray) : Msg := if msL p then msC p else Msg0
def msN (p : ByteArray) : Nat := (num p (msD p) 2).toNat
def mB (p : ByteArray) : Msg := ⟨bt p 0, bt p 1, bt p 2, bt p 3, p.extract 5 (msD p), p.extract (msD p + 2) (msD p + 2 + msN p), p.extract (msD p + 2 + msN p) p.size⟩
theorem mB_eq (p : ByteArray) : mB p = msC p := by unfold mB msC; rw [num_1, num_1, num_1, num_1]; rfl
theorem V3 (p : ByteArray) : msE p = msD p + 2 + msN p := rfl
theorem r227 (p : ByteArray) (hp : p.size ≤ 1000000) : Pure En 227 [.one (.str p)] [.agg (mR p).T, .one (.bool (decide (mOK p)))] := by
 refine Pure.of_ev (st := []) Tryz.func227 rfl kb ?_
 have hb0 := U9 p 4
 have hb1 := F5 p 4
 have hn4 : num p 4 1 = bt p 4 := num_1 _ _
 refine br ?_ ?_ <;> intro h1_2
 ·(apply est (u := .agg [.int _ _, .int _ _, .int _ _, .int _ _, .str _, .str _, .str _]) j3; exact Q0; rfl; exact j2; rfl; rfl; exact kb; rfl)
  have hno : ¬ msL p := by
   rintro ⟨e1, e2, e3⟩
   rw [V3] at e3
   have hd : (5 + bt p 4 : Int) = ((msD p : Nat) : Int) := by unfold msD; rw [hn4]; omega
   omega
  rw [show mR p = Msg0 from if_neg hno, decide_eq_false (fun e : mOK p => hno e.1)]
  refine D3 [] (A0 (A4 rfl (by exact Q0) j2 kb rfl) (A0 rfl A1)) ?_
  exact (SnapL.cons _ _ _ _ (SnapC.agg (.cons _ _ _ _ (.int _ _) (.cons _ _ _ _ (.int _ _) (.cons _ _ _ _ (.int _ _) (.cons _ _ _ _ (.int _ _) (.cons _ _ _ _ (.str _) (.cons _ _ _ _ (.str _) (.cons _ _ _ _ (.str _) .nil)))))))) (SnapL.cons _ _ _ _ (.one _ _ (.bool _)) SnapL.nil))
 ·refine lit 4 rfl (sd (by first | omega | exact Int.ofNat_lt.1 (by exact Q6)) ?_)
  refine cvF ⟨by exact Q24, by exact Q24⟩ ?_
  refine E2 ⟨by exact Q6, by exact Q6⟩ ?_
  refine br ?_ ?_ <;> intro h1_10
  ·(apply est (u := .agg [.int _ _, .int _ _, .int _ _, .int _ _, .str _, .str _, .str _]) j3; exact Q0; rfl; exact j2; rfl; rfl; exact kb; rfl)
   have hno : ¬ msL p := by
    rintro ⟨e1, e2, e3⟩
    rw [V3] at e3
    have hd : (5 + bt p 4 : Int) = ((msD p : Nat) : Int) := by unfold msD; rw [hn4]; omega
    omega
   rw [show mR p = Msg0 from if_neg hno, decide_eq_false (fun e : mOK p => hno e.1)]
   refine D3 [] (A0 (A4 rfl (by exact Q0) j2 kb rfl) (A0 rfl A1)) ?_
   exact (SnapL.cons _ _ _ _ (SnapC.agg (.cons _ _ _ _ (.int _ _) (.cons _ _ _ _ (.int _ _) (.cons _ _ _ _ (.int _ _) (.cons _ _ _ _ (.int _ _) (.cons _ _ _ _ (.str _) (.cons _ _ _ _ (.str _) (.cons _ _ _ _ (.str _) .nil)))))))) (SnapL.cons _ _ _ _ (.one _ _ (.bool _)) SnapL.nil))
  ·refine lit 4 rfl (sd (by first | omega | exact Int.ofNat_lt.1 (by exact Q6)) ?_)
   refine cvF ⟨by exact Q24, by exact Q24⟩ ?_
   refine E2 ⟨by exact Q6, by exact Q6⟩ ?_
   have hd : (5 + bt p 4 : Int) = ((msD p : Nat) : Int) := by unfold msD; rw [hn4]; omega
   rw [hd]
   have hdl : msD p + 2 ≤ p.size := by omega
   refine E2 ⟨by exact Q6, by exact Q6⟩ ?_
   refine sd ⟨by exact Q6, by exact Q6, by exact Q6⟩ ?_
   refine C5 (r220 (p.extract (msD p) (msD p + 2)) (by rw [C8 hdl]; omega)) rfl rfl rfl ?_
   have hN : num (p.extract (msD p) (msD p + 2)) 0 (p.extract (msD p) (msD p + 2)).size = ((msN p : Nat) : Int) := by
    unfold msN
    rw [C8 hdl, Nat.add_sub_cancel_left, G3 hdl (by omega)]
    have := N7 p (msD p) 2
    show num p (msD p) 2 = _; omega
   rw [hN]
   have hNb : msN p ≤ 65535 := by have := U8 p (msD p); unfold msN; omega
   have hel := V3 p
   refine E2 ⟨by exact Q6, by exact Q6⟩ ?_
   refine E2 ⟨by exact Q6, by exact Q6⟩ ?_
   refine E2 ⟨by exact Q6, by exact Q6⟩ ?_
   refine br ?_ ?_ <;> intro h5_7
   ·(apply est (u := .agg [.int _ _, .int _ _, .int _ _, .int _ _, .str _, .str _, .str _]) j3; exact Q0; rfl; exact j2; rfl; rfl; exact kb; rfl)
    have hno : ¬ msL p := by
     rintro ⟨e1, e2, e3⟩
     rw [V3] at e3
     have hd : (5 + bt p 4 : Int) = ((msD p : Nat) : Int) := by unfold msD; rw [hn4]; omega
     omega
    rw [show mR p = Msg0 from if_neg hno, decide_eq_false (fun e : mOK p => hno e.1)]
    refine D3 [] (A0 (A4 rfl (by exact Q0) j2 kb rfl) (A0 rfl A1)) ?_
    exact (SnapL.cons _ _ _ _ (SnapC.agg (.cons _ _ _ _ (.int _ _) (.cons _ _ _ _ (.int _ _) (.cons _ _ _ _ (.int _ _) (.cons _ _ _ _ (.int _ _) (.cons _ _ _ _ (.str _) (.cons _ _ _ _ (.str _) (.cons _ _ _ _ (.str _) .nil)))))))) (SnapL.cons _ _ _ _ (.one _ _ (.bool _)) SnapL.nil))
   ·refine lit 0 rfl (sd (by first | omega | exact Int.ofNat_lt.1 (by exact Q6)) ?_)
    refine cvF ⟨by exact Q24, by exact Q24⟩ ?_
    refine lit 1 rfl (sd (by first | omega | exact Int.ofNat_lt.1 (by exact Q6)) ?_)
    refine cvF ⟨by exact Q24, by exact Q24⟩ ?_
    refine lit 2 rfl (sd (by first | omega | exact Int.ofNat_lt.1 (by exact Q6)) ?_)
    refine cvF ⟨by exact Q24, by exact Q24⟩ ?_
    refine lit 3 rfl (sd (by first | omega | exact Int.ofNat_lt.1 (by exact Q6)) ?_)
    refine cvF ⟨by exact Q24, by exact Q24⟩ ?_
    refine sd ⟨by exact Q6, by exact Q6, by exact Q6⟩ ?_
    refine E2 ⟨by exact Q6, by exact Q6⟩ ?_
    refine E2 ⟨by exact Q6, by exact Q6⟩ ?_
    refine E2 ⟨by exact Q6, by exact Q6⟩ ?_
    refine sd ⟨by exact Q6, by exact Q6, by exact Q6⟩ ?_
    refine E2 ⟨by exact Q6, by exact Q6⟩ ?_
    refine E2 ⟨by exact Q6, by exact Q6⟩ ?_
    refine sd ⟨by exact Q6, by exact Q6, by exact Q6⟩ ?_
    (apply est (u := .agg [.int _ _, .int _ _, .int _ _, .int _ _, .str _, .str _, .str _]) j3; exact Q0; rfl; exact j2; rfl; rfl; exact kb; rfl)
    refine N8 ?_
    (apply D2 (vs := [.int _ _, .int _ _, .int _ _, .int _ _, .str _, .str _, .str _]) j2; exact Q0; rfl; rfl; exact kb; rfl)
    (apply D2 (vs := [.int _ _, .int _ _, .int _ _, .int _ _, .str _, .str _, .str _]) j2; exact Q0; rfl; rfl; exact kb; rfl)
    refine B8 (r165 (mB p)) rfl j2 ?_ ?_ <;> intro h8_2
    ·(apply est (u := .agg [.int _ _, .int _ _, .int _ _, .int _ _, .str _, .str _, .str _]) j3; exact Q0; rfl; exact j2; rfl; rfl; exact kb; rfl)
     refine N8 ?_
     have hyes : msL p := ⟨by omega, hdl, by rw [V3]; omega⟩
     have he := mB_eq p
     rw [show mR p = mB p from (if_pos hyes).trans he.symm]
     first
     | rw [decide_eq_true (show mOK p from ⟨hyes, by rw [← he]; exact h8_2⟩)]
     | rw [decide_eq_false (show ¬ mOK p from fun e => h8_2 (by rw [he]; exact e.2))]
     refine D3 [] (A0 (A4 rfl (by exact Q0) j2 kb rfl) (A0 rfl A1)) ?_
     exact (SnapL.cons _ _ _ _ (SnapC.agg (.cons _ _ _ _ (.int _ _) (.cons _ _ _ _ (.int _ _) (.cons _ _ _ _ (.int _ _) (.cons _ _ _ _ (.int _ _) (.cons _ _ _ _ (.str _) (.cons _ _ _ _ (.str _) (.cons _ _ _ _ (.str _) .nil)))))))) (SnapL.cons _ _ _ _ (.one _ _ (.bool _)) SnapL.nil))
    ·(apply est (u := .agg [.int _ _, .int _ _, .int _ _, .int _ _, .str _, .str _, .str _]) j3; exact Q0; rfl; exact j2; rfl; rfl; exact kb; rfl)
     refine N8 ?_
     have hyes : msL p := ⟨by omega, hdl, by rw [V3]; omega⟩
     have he := mB_eq p
     rw [show mR p = mB p from (if_pos hyes).trans he.symm]
     first
     | rw [decide_eq_true (show mOK p from ⟨hyes, by rw [← he]; exact h8_2⟩)]
     | rw [decide_eq_false (show ¬ mOK p from fun e => h8_2 (by rw [he]; exact e.2))]
     refine D3 [] (A0 (A4 rfl (by exact Q0) j2 kb rfl) (A0 rfl A1)) ?_
     exact (SnapL.cons _ _ _ _ (SnapC.agg (.cons _ _ _ _ (.int _ _) (.cons _ _ _ _ (.int _ _) (.cons _ _ _ _ (.int _ _) (.cons _ _ _ _ (.int _ _) (.cons _ _ _ _ (.str _) (.cons _ _ _ _ (.str _) (.cons _ _ _ _ (.str _) .nil)))))))) (SnapL.cons _ _ _ _ (.one _ _ (.bool _)) SnapL.nil))
open Go.V
set_option linter.unusedVariables false
set_option linter.unusedSimpArgs false
set_option maxRecDepth 20000
set_option maxHeartbeats 4000000
structure LR where
 i : Nat
 l : List ByteArray
 o : Nat
 b : Nat
 m : Nat
 g : Heap
structure LRI (p : ByteArray) (a : LR) : Prop where
 il : (a.i : Int) ≤ bt p 0
 sg : sg p a.i = some (a.l, a.o)
 sh : short a.l
 out : a.g a.b = some ⟨a.l.map tV, 1, 9⟩
 bm : a.b < a.m
theorem lsC_at {p : ByteArray} (h1 : 1 ≤ p.size) (h2 : bt p 0 ≤ 100) {l : List ByteArray} {o : Nat} (h : sg p (bt p 0).toNat = some (l, o)) : lsC p = if o = p.size ∧ short l then some l else none := by
 unfold lsC
 rw [num_1, if_pos ⟨h1, h2⟩, h]
theorem lsC_cut {p : ByteArray} {i : Nat} (h1 : 1 ≤ p.size) (hi : (i : Int) < bt p 0) {l : List ByteArray} {o : Nat} (h : sg p i = some (l, o)) (hc : ¬ (o + 2 ≤ p.size ∧ o + 2 + (num p o 2).toNat ≤ p.size) ∨ 20000 < (num p o 2).toNat) : lsC p = none := by
 unfold lsC
 rw [num_1]
 split
 ·by_cases c : o + 2 ≤ p.size ∧ o + 2 + (num p o 2).toNat ≤ p.size
  ·have hN := hc.resolve_left (fun q => q c)
   have hy := AC h c
   have key : ∀ (j : Nat) (l2 : List ByteArray) (o2 : Nat), i + 1 ≤ j → sg p j = some (l2, o2) → ¬ short l2 := by
    intro j
    induction j with
    | zero => intro l2 o2 hj; omega
    | succ j ih =>
     intro l2 o2 hj hs hsh
     by_cases e : i + 1 = j + 1
     ·rw [← e, hy] at hs
      cases hs
      have := hsh _ (List.mem_append_right _ (List.mem_singleton.2 rfl))
      rw [C8 c.2] at this
      omega
     ·match e2 : sg p j with
      | none => rw [sg_mono e2] at hs; cases hs
      | some (l3, o3) =>
       by_cases c3 : o3 + 2 ≤ p.size ∧ o3 + 2 + (num p o3 2).toNat ≤ p.size
       ·rw [AC e2 c3] at hs
        cases hs
        exact ih l3 o3 (by omega) e2 (fun s q => hsh s (List.mem_append_left _ q))
       ·rw [sg_no e2 c3] at hs; cases hs
   match e : sg p (bt p 0).toNat with
   | none => rfl
   | some (l2, o2) =>
    show (if o2 = p.size ∧ short l2 then some l2 else none) = none
    rw [if_neg (fun q => key _ l2 o2 (by omega) e q.2)]
  ·rw [sg_none (sg_no h c) (j := (bt p 0).toNat) (by omega)]
 ·rfl
open Go.V
set_option linter.unusedVariables false
set_option linter.unusedSimpArgs false
set_option maxRecDepth 20000
set_option maxHeartbeats 4000000
theorem ne_pos {p : ByteArray} (h : ¬ p = ⟨#[]⟩) : (0 : Int) < p.size := by
 have : p.size ≠ 0 := fun z => h (size0 z)
 omega
theorem r154 (p : ByteArray) (hp : p.size ≤ 1000000) : Pure En 154 [.one (.str p)] [.one (.sl false ((lsO p).map tT)), .one (.bool (lsC p).isSome)] := by
 refine Pure.of_ev (st := [7]) Tryz.func154 rfl kb ?_
 refine F2 (es := []) j4 kz kb rfl rfl ?_
 refine br ?_ ?_ <;> intro h2_1
 ·have hno : lsC p = none := by
   unfold lsC
   rw [if_neg]
   rintro ⟨e1, e2⟩
   rw [num_1] at e2
   first
   | (rw [h2_1] at e1; exact absurd e1 (by decide))
   | omega
  rw [show lsO p = [] by unfold lsO; rw [hno], hno]
  refine D3 [0] (A0 rfl (A0 rfl A1)) ?_
  exact (SnapL.cons _ _ _ _ (.one _ _ (.weak _ _ (B5 (b := ⟨[], 1, 9⟩) [] (List.mem_singleton.2 rfl) (by exact Q0) rfl rfl))) (SnapL.cons _ _ _ _ (.one _ _ (.bool _)) SnapL.nil))
 ·refine lit 0 rfl (sd (by first | omega | exact Int.ofNat_lt.1 (by exact T6)) ?_)
  refine br ?_ ?_ <;> intro h2_5
  ·have hno : lsC p = none := by
    unfold lsC
    rw [if_neg]
    rintro ⟨e1, e2⟩
    rw [num_1] at e2
    first
    | (rw [h2_1] at e1; exact absurd e1 (by decide))
    | omega
   rw [show lsO p = [] by unfold lsO; rw [hno], hno]
   refine D3 [0] (A0 rfl (A0 rfl A1)) ?_
   exact (SnapL.cons _ _ _ _ (.one _ _ (.weak _ _ (B5 (b := ⟨[], 1, 9⟩) [] (List.mem_singleton.2 rfl) (by exact Q0) rfl rfl))) (SnapL.cons _ _ _ _ (.one _ _ (.bool _)) SnapL.nil))
  ·have hp1 : 1 ≤ p.size := by
    rcases Nat.eq_zero_or_pos p.size with z | z
    ·exact absurd (size0 z) h2_1
    ·exact z
   have hbz := U9 p 0
   have hb100 : bt p 0 ≤ 100 := by omega
   refine lit 0 rfl (sd (by first | omega | exact Int.ofNat_lt.1 (by exact T6)) ?_)
   refine cvF ⟨by (first | exact bt_ge _ _ | exact bt_le _ _ | omega | exact T6), by (first | exact bt_ge _ _ | exact bt_le _ _ | omega | exact T6)⟩ ?_
   refine wlG fun g0 hg0 => ?_
   refine A9 (fun (a : LR) => [.str p, .unk, .unk, .unk, .view a.b 0 a.i, .int .i64 a.o, .int .i64 (bt p 0 - a.i)]) (fun (a : LR) => a.g) (fun (a : LR) => a.m) (fun (a : LR) => LRI p a) (fun (a : LR) => (bt p 0).toNat - a.i) ⟨0, [], 1, 0, 1, g0⟩ ?_ ?_ ?_ ?_ ?_
   ·refine ⟨by dsimp only; omega, rfl, fun s hs => (by cases hs), ?_, by dsimp only; omega⟩
    dsimp only; rw [hg0]; exact Q0
   ·(repeat first | exact LE.nil _ | refine LE.unk _ _ ?_ | refine LE.eq _ _ _ rfl ?_ | refine LE.eq _ _ _ (congrArg (V.int IntKind.i64) (show bt p 0 = bt p 0 - ((0 : Nat) : Int) by omega)) ?_)
   ·exact LessH.refl _
   ·exact Nat.le_refl _
   intro ⟨i, l, o, b, m, g⟩ hI ih
   have q0 := hI.il
   have hg := hI.out
   have q4 := hI.bm
   dsimp only at q0 hg q4 ⊢
   have hll := (sg_len hI.sg).1
   have hoo := (sg_len hI.sg).2.1 hp1
   dsimp only at hll hoo
   have hsg : sg p i = some (l, o) := hI.sg
   have hsh : short l := hI.sh
   refine A3 (st := [7]) ?_
   refine br ?_ ?_ <;> intro h6_1
   ·refine E2 ⟨by exact T6, by exact T6⟩ ?_
    refine br ?_ ?_ <;> intro h8_4
    ·refine F2 (es := []) j4 kz kb rfl rfl ?_
     have hno : lsC p = none := lsC_cut hp1 (by omega) hsg (.inl (by omega))
     rw [show lsO p = [] by unfold lsO; rw [hno], hno]
     refine D3 [m] (A0 rfl (A0 rfl A1)) ?_
     exact (SnapL.cons _ _ _ _ (.one _ _ (.weak _ _ (B5 (b := ⟨[], 1, 9⟩) [] (List.mem_singleton.2 rfl) (by exact Q0) rfl rfl))) (SnapL.cons _ _ _ _ (.one _ _ (.bool _)) SnapL.nil))
    ·refine E2 ⟨by exact T6, by exact T6⟩ ?_
     refine sd ⟨by exact T6, by exact T6, by exact T6⟩ ?_
     refine C5 (r220 (p.extract o (o + 2)) (by rw [C8 (by omega)]; omega)) rfl rfl rfl ?_
     have hN : num (p.extract o (o + 2)) 0 (p.extract o (o + 2)).size = (((num p o 2).toNat : Nat) : Int) := by
      rw [C8 (by omega), Nat.add_sub_cancel_left, G3 (by omega) (by omega)]
      have := N7 p o 2
      show num p o 2 = _; omega
     rw [hN]
     have hNb : (num p o 2).toNat ≤ 65535 := by have := U8 p o; omega
     refine br ?_ ?_ <;> intro h11_1
     ·refine F2 (es := []) j4 kz kb rfl rfl ?_
      have hno : lsC p = none := lsC_cut hp1 (by omega) hsg (by first | exact .inr (by omega) | exact .inl (by omega))
      rw [show lsO p = [] by unfold lsO; rw [hno], hno]
      refine D3 [m] (A0 rfl (A0 rfl A1)) ?_
      exact (SnapL.cons _ _ _ _ (.one _ _ (.weak _ _ (B5 (b := ⟨[], 1, 9⟩) [] (List.mem_singleton.2 rfl) (by exact Q0) rfl rfl))) (SnapL.cons _ _ _ _ (.one _ _ (.bool _)) SnapL.nil))
     ·refine E2 ⟨by exact T6, by exact T6⟩ ?_
      refine E2 ⟨by exact T6, by exact T6⟩ ?_
      refine br ?_ ?_ <;> intro h11_9
      ·refine F2 (es := []) j4 kz kb rfl rfl ?_
       have hno : lsC p = none := lsC_cut hp1 (by omega) hsg (by first | exact .inr (by omega) | exact .inl (by omega))
       rw [show lsO p = [] by unfold lsO; rw [hno], hno]
       refine D3 [m] (A0 rfl (A0 rfl A1)) ?_
       exact (SnapL.cons _ _ _ _ (.one _ _ (.weak _ _ (B5 (b := ⟨[], 1, 9⟩) [] (List.mem_singleton.2 rfl) (by exact Q0) rfl rfl))) (SnapL.cons _ _ _ _ (.one _ _ (.bool _)) SnapL.nil))
      ·refine E2 ⟨by exact T6, by exact T6⟩ ?_
       refine E2 ⟨by exact T6, by exact T6⟩ ?_
       refine E2 ⟨by exact T6, by exact T6⟩ ?_
       refine sd ⟨by exact T6, by exact T6, by exact T6⟩ ?_
       refine F2 (es := [[.str _]]) j4 kz kb rfl rfl ?_
       (apply eap (s' := 16) (es := [[.str _]]) rfl rfl; exact Q0; exact j2; exact Q23; exact j2; exact kz; exact O8; exact Q7; exact Q5; exact Q5)
       refine E2 ⟨by exact T6, by exact T6⟩ ?_
       refine E2 ⟨by exact T6, by exact T6⟩ ?_
       refine H2 fun G hG => ?_
       refine E2 ⟨by exact T6, by exact T6⟩ ?_
       have hst1 : (o : Int) + (2 + (((num p o 2).toNat : Nat) : Int)) = ((o + 2 + (num p o 2).toNat : Nat) : Int) := by omega
       have hst2 : bt p 0 - (i : Int) - 1 = bt p 0 - ((i + 1 : Nat) : Int) := by omega
       refine C9 (ih ⟨i + 1, l ++ [p.extract (o + 2) (o + 2 + (num p o 2).toNat)], o + 2 + (num p o 2).toNat, m + 1, m + 1 + 1, G⟩ ⟨by dsimp only; omega, AC hsg (by omega), fun s hs => ?_, ?_, by dsimp only; omega⟩ (by dsimp only; omega)) (by (repeat first | exact LE.nil _ | refine LE.unk _ _ ?_ | refine LE.eq _ _ _ rfl ?_ | refine LE.eq _ _ _ (congrArg (V.int IntKind.i64) hst1) ?_ | refine LE.eq _ _ _ (congrArg (V.int IntKind.i64) hst2) ?_)) (LessH.refl _) (Nat.le_refl _)
       ·rcases List.mem_append.1 hs with h | h
        ·exact hsh s h
        ·rw [List.mem_singleton.1 h, C8 (by omega)]; omega
       ·dsimp only; rw [hG]; show _ = some (Blk.mk ((l ++ [_]).map tV) 1 9); rw [List.map_append]; exact Q0
   ·refine br ?_ ?_ <;> intro h15_3
    ·refine F2 (es := []) j4 kz kb rfl rfl ?_
     have hi : i = (bt p 0).toNat := by omega
     have hno : lsC p = none := by rw [lsC_at hp1 (by omega) (hi ▸ hsg), if_neg]; rintro ⟨q, _⟩; omega
     rw [show lsO p = [] by unfold lsO; rw [hno], hno]
     refine D3 [m] (A0 rfl (A0 rfl A1)) ?_
     exact (SnapL.cons _ _ _ _ (.one _ _ (.weak _ _ (B5 (b := ⟨[], 1, 9⟩) [] (List.mem_singleton.2 rfl) (by exact Q0) rfl rfl))) (SnapL.cons _ _ _ _ (.one _ _ (.bool _)) SnapL.nil))
    ·have hi : i = (bt p 0).toNat := by omega
     have hyes : lsC p = some l := by rw [lsC_at hp1 (by omega) (hi ▸ hsg), if_pos ⟨by omega, hsh⟩]
     rw [show lsO p = l by unfold lsO; rw [hyes], hyes]
     refine D3 [b] (A0 rfl (A0 rfl A1)) (SnapL.cons _ _ _ _ (.one _ _ (.weak _ _ (B5 (b := ⟨l.map tV, 1, 9⟩) (l.map tT) (List.mem_singleton.2 rfl) (by exact Q0) (rowsT _).symm (by rw [List.length_map]; exact hll.symm)))) (SnapL.cons _ _ _ _ (.one _ _ (.bool _)) SnapL.nil))
open Go.V
set_option linter.unusedVariables false
set_option linter.unusedSimpArgs false
set_option maxRecDepth 20000
set_option maxHeartbeats 4000000
def crL (r : List ByteArray) : Nat → List Msg
 | 0 => []
 | i + 1 => crL r i ++ [mR (r.getD i ⟨#[]⟩)]
theorem crL_len (r : List ByteArray) : ∀ i, (crL r i).length = i
 | 0 => rfl
 | i + 1 => by show (crL r i ++ [_]).length = _; rw [List.length_append, crL_len r i]; rfl
theorem crL_tk {r : List ByteArray} : ∀ {i : Nat}, i ≤ r.length → (∀ j, j < i → pOf (r.getD j ⟨#[]⟩)) → crL r i = (r.take i).map msC
 | 0, _, _ => rfl
 | i + 1, h, hp => by
  show crL r i ++ [mR (r.getD i ⟨#[]⟩)] = _
  rw [crL_tk (by omega) (fun j hj => hp j (by omega)), show mR (r.getD i ⟨#[]⟩) = msC _ from if_pos (hp i (by omega)).1.1, List.take_succ_eq_append_getElem (by omega), List.map_append, show r.getD i ⟨#[]⟩ = r[i] by simp [show i < r.length by omega]]; rfl
theorem lsC_short {p : ByteArray} {l : List ByteArray} (h : lsC p = some l) : short l := by
 unfold lsC at h
 split at h
 ·split at h
  ·split at h
   ·next c => cases h; exact c.2
   ·cases h
  ·cases h
 ·cases h
structure CRI (s : ByteArray) (r : List ByteArray) (a : CS) : Prop where
 il : a.i ≤ r.length
 g0 : a.g 0 = CB ⟨#[]⟩ .nsl
 g1 : a.g 2 = CB s (.view a.b 0 a.i)
 out : a.g a.b = some ⟨(crL r a.i).map Msg.V, 7, 37⟩
 bm : 1 ≤ a.b ∧ a.b ≠ 2 ∧ a.b < a.m ∧ 3 ≤ a.m
 ok : ∀ j, j < a.i → pOf (r.getD j ⟨#[]⟩)
open Go.V
set_option linter.unusedVariables false
set_option linter.unusedSimpArgs false
set_option maxRecDepth 20000
set_option maxHeartbeats 4000000
theorem r155 (p : ByteArray) (hp : p.size ≤ 1000000) : Pure En 155 [.one (.str p)] [.agg ((ctX p).T false), .one (.bool (ctC p).isSome)] := by
 refine Pure.of_ev (st := [4, 7]) Tryz.func155 rfl kb ?_
 refine C5 (r154 p hp) rfl rfl rfl ?_
 refine brB ?_ ?_ <;> intro h1_4
 ·refine B8 (s50 _ _ _) rfl j2 ?_ ?_ <;> intro h2_5
  ·refine H2 fun G hG => ?_
   have hG0 : G 0 = CB ⟨#[]⟩ .nsl := by rw [hG]; exact Q0
   unfold CB at hG0
   have hls := J7 h1_4
   have hl8 : 1 ≤ (lsO p).length ∧ (lsO p).length ≤ 8 := by rw [List.length_map] at h2_5; omega
   have hsh := lsC_short hls
   obtain ⟨s, r, hbr⟩ : ∃ s r, lsO p = s :: r := by
    match e : lsO p with
    | [] => rw [e] at hl8; have := hl8.1; simp at this
    | s :: r => exact ⟨s, r, rfl⟩
   rw [hbr] at hls hl8 hsh ⊢
   have hr7 : r.length ≤ 7 := by rw [List.length_cons] at hl8; omega
   have hat := ct_at hls hr7
   have hshort : ∀ i, i < r.length → (r.getD i ⟨#[]⟩).size ≤ 20000 := fun i hi => hsh _ (List.mem_cons_of_mem _ (J6 hi))
   have hll : (List.map tT (s :: r)).length = r.length + 1 := by simp
   (refine C0 (D1 (by first | rfl | assumption | (first | rfl | exact A7 tT ⟨#[]⟩ (L := s :: r) (k := i + 1) (by rw [List.length_cons]; omega))) rfl ?_))
   refine F2 (es := []) j4 kz kb rfl rfl ?_
   (apply est (u := .agg [.str _, _]) j3; exact Q0; exact Q4; exact j2; rfl; rfl; exact kb; rfl)
   refine wlG fun g0 hg0 => ?_
   refine A9 (fun (a : CS) => [.unk, .unk, .ptr 0 0 0, .unk, .sl true false (List.map tT (s :: r)), .unk, .ptr 2 0 0, .int .i64 ((a.i + 1 : Nat) : Int)]) (fun (a : CS) => a.g) (fun (a : CS) => a.m) (fun (a : CS) => CRI s r a) (fun (a : CS) => r.length - a.i) ⟨0, .nsl, 1, 3, g0⟩ ?_ ?_ ?_ ?_ ?_
   ·refine ⟨Nat.zero_le _, ?_, ?_, ?_, by dsimp only; omega, F6⟩
    ·dsimp only; rw [hg0]; exact Q0
    ·dsimp only; rw [hg0]; exact Q0
    ·dsimp only; rw [hg0]; exact Q0
   ·(repeat first | exact LE.nil _ | refine LE.unk _ _ ?_ | refine LE.eq _ _ _ rfl ?_)
   ·exact LessH.refl _
   ·exact Nat.le_refl _
   intro ⟨i, o, b, m, g⟩ hI ih
   have q0 := hI.il
   have hg0 := hI.g0
   have hg1 := hI.g1
   have hg2 := hI.out
   have q4 := hI.bm
   have hok := hI.ok
   unfold CB at hg0 hg1
   dsimp only at q0 hg0 hg1 hg2 q4 hok ⊢
   have hrl := crL_len r i
   refine A3 (st := [4, 7]) ?_
   refine br ?_ ?_ <;> intro h6_3
   ·(refine C0 (D1 (by first | rfl | assumption | (first | rfl | exact A7 tT ⟨#[]⟩ (L := s :: r) (k := i + 1) (by rw [List.length_cons]; omega))) rfl ?_))
    refine C5 (r227 (r.getD i ⟨#[]⟩) (by have := hshort i (by omega); omega)) rfl rfl rfl ?_
    refine brB ?_ ?_ <;> intro h8_7
    ·(apply est (u := .agg [.int _ _, .int _ _, .int _ _, .int _ _, .str _, .str _, .str _]) j3; exact Q0; exact Q4; exact j2; rfl; rfl; exact kb; rfl)
     refine A2 ?_ (by exact Q0) (by exact Q4)
     refine br ?_ ?_ <;> intro h9_5
     ·(apply est (u := .agg [.str _, _]) j3; exact Q0; exact Q4; exact j2; rfl; rfl; exact kb; rfl)
      have hno : ctC p = none := by
       rw [hat, S5 (J6 (i := i) (by omega)) (fun q => ?_)]
       ·rfl
       ·first
        | exact absurd q.1 (of_decide_eq_false h8_7)
        | (rw [show mR (r.getD i ⟨#[]⟩) = msC _ from if_pos q.1.1] at h9_5; exact h9_5 q.2)
      rw [show ctX p = Ct0 by unfold ctX; rw [hno], hno]
      refine D3 [] (A0 (A4 rfl (by exact Q0) j2 kb rfl) (A0 rfl A1)) ?_
      exact (SnapL.cons _ _ _ _ (SnapC.agg (.cons _ _ _ _ (.str _) (.cons _ _ _ _ .nslW .nil))) (SnapL.cons _ _ _ _ (.one _ _ (.bool _)) SnapL.nil))
     ·refine A2 ?_ (by exact Q0) (by exact Q4)
      (apply D2 (vs := [.int _ _, .int _ _, .int _ _, .int _ _, .str _, .str _, .str _]) j2; exact Q0; exact Q4; rfl; exact kb; rfl)
      refine F2 (es := [[.int _ _, .int _ _, .int _ _, .int _ _, .str _, .str _, .str _]]) j4 kz kb rfl rfl ?_
      (apply eap (s' := 80) (es := [[.int _ _, .int _ _, .int _ _, .int _ _, .str _, .str _, .str _]]) rfl rfl; exact Q0; exact j2; exact Q23; exact j2; exact kz; exact O8; exact Q7; exact Q5; exact Q5)
      (apply est (u := .view _ _ _) j3; exact Q0; exact Q4; exact j2; rfl; rfl; exact kb; rfl)
      refine H2 fun G hG => ?_
      refine C1 ?_
      have hy : mOK (r.getD i ⟨#[]⟩) := of_decide_eq_true h8_7
      have hpi : pOf (r.getD i ⟨#[]⟩) := ⟨hy, by rw [show mR (r.getD i ⟨#[]⟩) = msC _ from if_pos hy.1] at h9_5; exact Classical.not_not.1 h9_5⟩
      refine C9 (ih ⟨i + 1, .nsl, m + 1 + 1, m + 1 + 1 + 1, G⟩ ⟨by dsimp only; omega, ?_, ?_, ?_, by dsimp only; omega, fun j hj => ?_⟩ (by dsimp only; omega)) (by (repeat first | exact LE.nil _ | refine LE.unk _ _ ?_ | refine LE.eq _ _ _ rfl ?_)) (LessH.refl _) (Nat.le_refl _)
      ·dsimp only; rw [hG]; exact Q0
      ·dsimp only; rw [hG]; exact Q0
      ·dsimp only; rw [hG]; show _ = some (Blk.mk ((crL r i ++ [_]).map Msg.V) 7 37); rw [List.map_append]; exact Q0
      ·rcases Nat.lt_succ_iff_lt_or_eq.1 hj with q | q
       ·exact hok j q
       ·rw [q]; exact hpi
    ·(apply est (u := .agg [.int _ _, .int _ _, .int _ _, .int _ _, .str _, .str _, .str _]) j3; exact Q0; exact Q4; exact j2; rfl; rfl; exact kb; rfl)
     (apply est (u := .agg [.str _, _]) j3; exact Q0; exact Q4; exact j2; rfl; rfl; exact kb; rfl)
     have hno : ctC p = none := by
      rw [hat, S5 (J6 (i := i) (by omega)) (fun q => ?_)]
      ·rfl
      ·first
       | exact absurd q.1 (of_decide_eq_false h8_7)
       | (rw [show mR (r.getD i ⟨#[]⟩) = msC _ from if_pos q.1.1] at h9_5; exact h9_5 q.2)
     rw [show ctX p = Ct0 by unfold ctX; rw [hno], hno]
     refine D3 [] (A0 (A4 rfl (by exact Q0) j2 kb rfl) (A0 rfl A1)) ?_
     exact (SnapL.cons _ _ _ _ (SnapC.agg (.cons _ _ _ _ (.str _) (.cons _ _ _ _ .nslW .nil))) (SnapL.cons _ _ _ _ (.one _ _ (.bool _)) SnapL.nil))
   ·(apply D2 (vs := [.str _, _]) j2; exact Q0; exact Q4; rfl; exact kb; rfl)
    (apply est (u := .agg [.str _, _]) j3; exact Q0; exact Q4; exact j2; rfl; rfl; exact kb; rfl)
    have hyes : ctC p = some ⟨s, crL r i⟩ := by
     obtain rfl : i = r.length := by omega
     rw [hat, mss_yes (pOf_all hok), crL_tk (Nat.le_refl _) hok, List.take_length]; rfl
    rw [show ctX p = ⟨s, crL r i⟩ by unfold ctX; rw [hyes], hyes]
    refine D3 [b] (A0 (A4 rfl (by exact Q0) j2 kb rfl) (A0 rfl A1)) ?_
    exact (SnapL.cons _ _ _ _ (SnapC.agg (.cons _ _ _ _ (.str _) (.cons _ _ _ _ (.weak _ _ (B5 (b := ⟨(crL r i).map Msg.V, 7, 37⟩) ((crL r i).map Msg.T) (List.mem_singleton.2 rfl) (by exact Q0) (rowsM _).symm (by rw [List.length_map, hrl]))) .nil))) (SnapL.cons _ _ _ _ (.one _ _ (.bool _)) SnapL.nil))
  ·(apply est (u := .agg [.str _, _]) j3; exact Q0; exact Q4; exact j2; rfl; rfl; exact kb; rfl)
   have hno : ctC p = none := by
    first
    | exact ct_len (J7 h1_4) (by rw [List.length_map] at h2_5; omega)
    | exact Y7 (by match e : lsC p with | none => rfl | some l => rw [e] at h1_4; cases h1_4)
   rw [show ctX p = Ct0 by unfold ctX; rw [hno], hno]
   refine D3 [] (A0 (A4 rfl (by exact Q0) j2 kb rfl) (A0 rfl A1)) ?_
   exact (SnapL.cons _ _ _ _ (SnapC.agg (.cons _ _ _ _ (.str _) (.cons _ _ _ _ .nslW .nil))) (SnapL.cons _ _ _ _ (.one _ _ (.bool _)) SnapL.nil))
 ·(apply est (u := .agg [.str _, _]) j3; exact Q0; exact Q4; exact j2; rfl; rfl; exact kb; rfl)
  have hno : ctC p = none := by
   first
   | exact ct_len (J7 h1_4) (by rw [List.length_map] at h2_5; omega)
   | exact Y7 (by match e : lsC p with | none => rfl | some l => rw [e] at h1_4; cases h1_4)
  rw [show ctX p = Ct0 by unfold ctX; rw [hno], hno]
  refine D3 [] (A0 (A4 rfl (by exact Q0) j2 kb rfl) (A0 rfl A1)) ?_
  exact (SnapL.cons _ _ _ _ (SnapC.agg (.cons _ _ _ _ (.str _) (.cons _ _ _ _ .nslW .nil))) (SnapL.cons _ _ _ _ (.one _ _ (.bool _)) SnapL.nil))
end Go.Proofs.YteifdelnahccjaaGreatDoor
