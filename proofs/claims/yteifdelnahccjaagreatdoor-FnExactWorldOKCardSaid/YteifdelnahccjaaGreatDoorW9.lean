import Derived.Test.YteifdelnahccjaaGreatDoorW8
namespace Go.Proofs.YteifdelnahccjaaGreatDoor
open Go.V
set_option linter.unusedVariables false
set_option linter.unusedSimpArgs false
set_option maxRecDepth 20000
set_option maxHeartbeats 4000000
noncomputable instance dcRL (p : ByteArray) : Decidable (rqL p 0 ∧ (rqC p 0).OK) := Classical.propDecidable _
noncomputable def rqR (p : ByteArray) : Rq := if rqL p 0 then rqC p 0 else RqZ
def rqB (p : ByteArray) : Rq := ⟨bt p 0, num (p.extract 1 3) 0 (p.extract 1 3).size, bt p 3, num (p.extract 4 6) 0 (p.extract 4 6).size, p.extract 7 p.size⟩
theorem rqB_eq {p : ByteArray} (h : 7 ≤ p.size) : rqB p = rqC p 0 := by
 unfold rqB rqC
 rw [C7 (by omega), C7 (by omega), G3 (by omega) (by omega), G3 (by omega) (by omega), num_1, num_1]
theorem W9 {p : ByteArray} : rqL p 0 ↔ 7 ≤ p.size ∧ (p.size : Int) = 7 + bt p 6 := by
 unfold rqL
 rw [Nat.zero_add, Nat.zero_add, num_1]
 constructor <;> intro h <;> exact ⟨by omega, by have := h.2; omega⟩
theorem r220 (s : ByteArray) (h : s.size ≤ 6) : Pure En 220 [.one (.str s)] [.one (.int .i64 (num s 0 s.size))] := by
 refine Pure.of_ev (st := []) Tryz.func220 rfl kb ?_
 refine B3 (fun (i : Nat) => [.str s, .unk, .unk, .int .i64 (num s 0 i), .int .i64 i]) (fun (i : Nat) => fun _ => none) (fun (i : Nat) => 0) (fun (i : Nat) => i ≤ s.size) (fun (i : Nat) => s.size - i) 0 ?_ ?_ ?_ ?_ ?_
 ·exact Nat.zero_le _
 ·(repeat first | exact LE.nil _ | refine LE.unk _ _ ?_ | refine LE.eq _ _ _ rfl ?_)
 ·exact LessH.refl _
 ·exact Nat.le_refl _
 intro i hI ih
 have hn0 := L2 s 0 i
 have hn1 := num_lt s 0 i (by omega)
 have hb0 := U1 s i
 have hb1 := F8 s i
 have hst := num_s s i
 have hb2 := U1 s ((i : Int)).toNat
 have hb3 := F8 s ((i : Int)).toNat
 refine A6 (st := []) ?_
 refine br ?_ ?_ <;> intro h3_3
 ·refine D3 ⟨by exact Q4, by exact Q4⟩ ?_
  refine sd (by first | exact (by exact Q4) | exact ⟨by exact Q4, by exact Q4⟩) ?_
  refine cvF ⟨by exact Q26, by exact Q26⟩ ?_
  refine D3 ⟨by exact Q4, by exact Q4⟩ ?_
  refine D3 ⟨by exact Q4, by exact Q4⟩ ?_
  exact C6 (ih (i + 1) (by omega) (by omega)) (by (repeat first | exact LE.nil _ | refine LE.unk _ _ ?_ | refine LE.eq _ _ _ rfl ?_ | refine LE.eq _ _ _ (congrArg (V.int IntKind.i64) hst.symm) ?_)) (LessH.refl _) (Nat.le_refl _)
 ·obtain rfl : i = s.size := by omega
  exact B4 rfl rfl
theorem r221 (p : ByteArray) (hp : p.size ≤ 1000000) : Pure En 221 [.one (.str p)] [.agg (rqR p).T, .one (.bool (decide (rqL p 0 ∧ (rqC p 0).OK)))] := by
 refine Pure.of_ev (st := []) Tryz.func221 rfl kb ?_
 have hb6a := U1 p 6
 have hb6b := F8 p 6
 refine br ?_ ?_ <;> intro h1_2
 ·(apply est (u := .agg [.int _ _, .int _ _, .int _ _, .int _ _, .str _]) j3; exact Q0; rfl; exact j4; exact kb; rfl)
  have hno : ¬ rqL p 0 := by rw [W9]; omega
  rw [show rqR p = RqZ from if_neg hno, decide_eq_false (fun e => hno e.1)]
  refine C9 [] (A0 (A3 rfl (by exact Q0) j2 kb rfl) (A0 rfl A2)) ?_
  exact (SnapL.cons _ _ _ _ (SnapC.agg (.cons _ _ _ _ (.int _ _) (.cons _ _ _ _ (.int _ _) (.cons _ _ _ _ (.int _ _) (.cons _ _ _ _ (.int _ _) (.cons _ _ _ _ (.str _) .nil)))))) (SnapL.cons _ _ _ _ (.one _ _ (.bool _)) SnapL.nil))
 ·refine lit 6 rfl (sd (by first | omega | exact Int.ofNat_lt.1 (by exact Q4)) ?_)
  refine cvF ⟨by exact Q26, by exact Q26⟩ ?_
  refine D3 ⟨by exact Q4, by exact Q4⟩ ?_
  refine br ?_ ?_ <;> intro h1_10
  ·(apply est (u := .agg [.int _ _, .int _ _, .int _ _, .int _ _, .str _]) j3; exact Q0; rfl; exact j4; exact kb; rfl)
   have hno : ¬ rqL p 0 := by rw [W9]; omega
   rw [show rqR p = RqZ from if_neg hno, decide_eq_false (fun e => hno e.1)]
   refine C9 [] (A0 (A3 rfl (by exact Q0) j2 kb rfl) (A0 rfl A2)) ?_
   exact (SnapL.cons _ _ _ _ (SnapC.agg (.cons _ _ _ _ (.int _ _) (.cons _ _ _ _ (.int _ _) (.cons _ _ _ _ (.int _ _) (.cons _ _ _ _ (.int _ _) (.cons _ _ _ _ (.str _) .nil)))))) (SnapL.cons _ _ _ _ (.one _ _ (.bool _)) SnapL.nil))
  ·refine lit 0 rfl (sd (by first | omega | exact Int.ofNat_lt.1 (by exact Q4)) ?_)
   refine cvF ⟨by exact Q26, by exact Q26⟩ ?_
   refine sd ⟨by exact Q4, by exact Q4, by exact Q4⟩ ?_
   refine C1 (r220 (p.extract 1 3) (by rw [C7 (by omega)]; omega)) rfl rfl rfl ?_
   refine lit 3 rfl (sd (by first | omega | exact Int.ofNat_lt.1 (by exact Q4)) ?_)
   refine cvF ⟨by exact Q26, by exact Q26⟩ ?_
   refine sd ⟨by exact Q4, by exact Q4, by exact Q4⟩ ?_
   refine C1 (r220 (p.extract 4 6) (by rw [C7 (by omega)]; omega)) rfl rfl rfl ?_
   refine sd ⟨by exact Q4, by exact Q4, by exact Q4⟩ ?_
   (apply est (u := .agg [.int _ _, .int _ _, .int _ _, .int _ _, .str _]) j3; exact Q0; rfl; exact j4; exact kb; rfl)
   refine L5 ?_
   (apply C3 (vs := [.int _ _, .int _ _, .int _ _, .int _ _, .str _]) j2; exact Q0; rfl; rfl; exact kb; rfl)
   (apply C3 (vs := [.int _ _, .int _ _, .int _ _, .int _ _, .str _]) j2; exact Q0; rfl; rfl; exact kb; rfl)
   refine B0 (s52 (rqB p)) rfl j2 ?_ ?_ <;> intro h4_2
   ·(apply est (u := .agg [.int _ _, .int _ _, .int _ _, .int _ _, .str _]) j3; exact Q0; rfl; exact j4; exact kb; rfl)
    refine L5 ?_
    have hyes : rqL p 0 := by rw [W9]; omega
    have he : rqB p = rqC p 0 := rqB_eq (by omega)
    rw [show rqR p = rqB p from (if_pos hyes).trans he.symm]
    first
    | rw [decide_eq_true (show rqL p 0 ∧ (rqC p 0).OK from ⟨hyes, by rw [← he]; exact h4_2⟩)]
    | rw [decide_eq_false (show ¬ (rqL p 0 ∧ (rqC p 0).OK) from fun e => h4_2 (by rw [he]; exact e.2))]
    refine C9 [] (A0 (A3 rfl (by exact Q0) j2 kb rfl) (A0 rfl A2)) ?_
    exact (SnapL.cons _ _ _ _ (SnapC.agg (.cons _ _ _ _ (.int _ _) (.cons _ _ _ _ (.int _ _) (.cons _ _ _ _ (.int _ _) (.cons _ _ _ _ (.int _ _) (.cons _ _ _ _ (.str _) .nil)))))) (SnapL.cons _ _ _ _ (.one _ _ (.bool _)) SnapL.nil))
   ·(apply est (u := .agg [.int _ _, .int _ _, .int _ _, .int _ _, .str _]) j3; exact Q0; rfl; exact j4; exact kb; rfl)
    refine L5 ?_
    have hyes : rqL p 0 := by rw [W9]; omega
    have he : rqB p = rqC p 0 := rqB_eq (by omega)
    rw [show rqR p = rqB p from (if_pos hyes).trans he.symm]
    first
    | rw [decide_eq_true (show rqL p 0 ∧ (rqC p 0).OK from ⟨hyes, by rw [← he]; exact h4_2⟩)]
    | rw [decide_eq_false (show ¬ (rqL p 0 ∧ (rqC p 0).OK) from fun e => h4_2 (by rw [he]; exact e.2))]
    refine C9 [] (A0 (A3 rfl (by exact Q0) j2 kb rfl) (A0 rfl A2)) ?_
    exact (SnapL.cons _ _ _ _ (SnapC.agg (.cons _ _ _ _ (.int _ _) (.cons _ _ _ _ (.int _ _) (.cons _ _ _ _ (.int _ _) (.cons _ _ _ _ (.int _ _) (.cons _ _ _ _ (.str _) .nil)))))) (SnapL.cons _ _ _ _ (.one _ _ (.bool _)) SnapL.nil))
open Go.V
set_option linter.unusedVariables false
set_option linter.unusedSimpArgs false
set_option maxRecDepth 20000
set_option maxHeartbeats 4000000
theorem r153 (b : ByteArray) (hb : b.size ≤ 900000) : Pure En 153 [.one (.str b)] [.one (.str (dgB b))] := by
 refine Pure.of_ev (st := []) Tryz.func153 rfl kb ?_
 refine sd (by (first | omega | assumption | (show 5 + _ ≤ _; omega))) ?_
 refine ebt j5 ?_
 apply eclS [0] (s103s true (litB ++ b) (by rw [ByteArray.size_append]; show 5 + _ ≤ _; omega)) rfl rfl rfl
 ·refine SnapL.cons _ _ _ _ (.one _ _ (snapS (List.mem_singleton.2 rfl) ?_ rfl)) SnapL.nil
  exact Q0
 exact B4 rfl rfl
open Go.V
set_option linter.unusedVariables false
set_option linter.unusedSimpArgs false
set_option maxRecDepth 20000
set_option maxHeartbeats 4000000
def ckL (vl : Int) : List Int := [99, 108, 111, 99, 107] ++ numL vl 4
theorem ckL_str (vl : Int) : V.strOw (ckL vl) = litC ++ Nm vl 4 := by
 unfold ckL; rw [E8, S9]; rfl
theorem ckL_len (vl : Int) : (ckL vl).length = 9 := by unfold ckL; rw [List.length_append, C2]; rfl
theorem ckL_bytes (vl : Int) : bytes (ckL vl) := E4 (fun b hb => by simp at hb; omega) (G5 vl 4 (by decide))
theorem r224 (fr vl : Int) : Pure En 224 [.one (.int .i64 fr), .one (.int .i64 vl)] [.one (.str (rdM fr vl))] := by
 refine Pure.of_ev (st := []) Tryz.func224 rfl kb ?_
 refine F7 (es := [[.int _ _], [.int _ _], [.int _ _], [.int _ _], [.int _ _]]) j4 kz kb rfl rfl ?_
 (apply emk8 j2; exact Q0; rfl; exact ⟨rfl, rfl⟩)
 refine C1 (s105 vl 4 (by decide)) rfl rfl rfl ?_
 (apply eap (s' := 1) rfl rfl; exact Q0; exact j2; exact Q15; exact j2; exact kz; rfl; exact (V2 true (numL vl 4)); exact Q18; exact Q18)
 apply eclS [1] (s91 fr true (ckL vl) (by rw [ckL_len]; decide) (ckL_bytes vl)) rfl rfl rfl
 ·refine SnapL.cons _ _ _ _ (.one _ _ (.int _ _)) (SnapL.cons _ _ _ _ (.one _ _ (snapB (List.mem_singleton.2 rfl) ?_ ?_)) SnapL.nil)
  ·((simp (disch := omega) only [↓app0, ↓appC, ↓updS, ↓updN, ↓hpS, ↓hpN]); exact congrArg (fun z => some (Blk.mk z 1 5)) (by unfold ckL; rw [List.map_append, P0]; rfl))
  ·(rw [ckL_len]; exact Q15)
 unfold rdM; rw [← ckL_str]; exact B4 rfl rfl
open Go.V
set_option linter.unusedVariables false
set_option linter.unusedSimpArgs false
set_option maxRecDepth 20000
set_option maxHeartbeats 4000000
theorem strLen1 (s : ByteArray) : ∀ c ∈ (s.data.toList.map fun b => [V.int .u8 (b.toNat : Int)]), c.length = 1 := by simp
def plnL (m : Msg) : List Int := [IntKind.u8.wrap m.kd, IntKind.u8.wrap m.vw, IntKind.u8.wrap m.sq, IntKind.u8.wrap m.fr, IntKind.u8.wrap m.dg.size] ++ byt m.dg ++ numL m.bd.size 2 ++ byt m.bd
theorem plnL_str (m : Msg) : V.strOw (plnL m) = bare m := by
 unfold plnL bare
 rw [E8, E8, E8, T6, T6, S9, S9, S9, S9, S9, S9, AB, AB, AB, AB, AB, ← E8, ← E8, ← E8, ← E8]; rfl
theorem plnL_bytes (m : Msg) : bytes (plnL m) := by
 unfold plnL
 refine E4 (E4 (E4 (fun b hb => ?_) (T5 _)) (G5 _ 2 (by decide))) (T5 _)
 simp only [List.mem_cons, List.not_mem_nil, or_false] at hb
 rcases hb with h | h | h | h | h <;> (rw [h]; exact u8_in _)
theorem plnL_len (m : Msg) : (plnL m).length = 7 + m.dg.size + m.bd.size := by
 unfold plnL; rw [List.length_append, List.length_append, List.length_append, C2, E3, E3]; show 5 + _ + _ + _ = _; omega
theorem datLen (s : ByteArray) : s.data.toList.length = s.size := rfl
theorem datLen2 (s : ByteArray) : s.data.size = s.size := rfl
theorem r167 (m : Msg) (hd : m.dg.size ≤ 1000) (hb : m.bd.size ≤ 20000) : Pure En 167 [.agg m.T] [.one (.sl true ((plnL m).map bT))] := by
 refine Pure.of_ev (st := []) Tryz.func167 rfl kb ?_
 refine A1 ?_
 refine A1 ?_
 refine A1 ?_
 refine A1 ?_
 refine A1 ?_
 refine F7 (es := [[.int _ _], [.int _ _], [.int _ _], [.int _ _], [.int _ _]]) j4 kz kb rfl rfl ?_
 refine A1 ?_
 (apply eap (s' := 1) rfl rfl; exact Q0; exact j2; exact Q28; exact j2; exact kz; rfl; exact (strLen1 m.dg); exact Q27; exact Q27)
 refine A1 ?_
 refine C1 (s105 m.bd.size 2 (by decide)) rfl rfl rfl ?_
 (apply eap (s' := 1) rfl rfl; exact Q0; exact j2; exact Q28; exact j2; exact kz; rfl; exact (V2 true (numL m.bd.size 2)); exact Q27; exact Q27)
 refine clr 10 [0, 3, 0, 0, 1, 0, 3, 1, 0, 0] [(3, 5)] j2 (by decide +kernel) ?_ ?_
 ·first | (simp [ClearL, ids]; done) | (simp [ClearL, ids]; omega) | (simp [ClearL, ids, srcIds, Env.eval, put, upd, retV, A.toV, T.toV]; try omega)
 refine A1 ?_
 (apply eap (s' := 1) rfl rfl; exact Q0; exact j2; exact Q28; exact j2; exact kz; rfl; exact (strLen1 m.bd); exact Q27; exact Q27)
 refine C9 [4] (A0 rfl A2) (SnapL.cons _ _ _ _ (.one _ _ (snapB (List.mem_singleton.2 rfl) ?_ ?_)) SnapL.nil)
 ·((simp (disch := omega) only [↓app0, ↓appC, ↓updS, ↓updN, ↓hpS, ↓hpN]); exact congrArg (fun z => some (Blk.mk z 1 5)) (by unfold plnL; rw [List.map_append, List.map_append, List.map_append, ← I6, ← I6, List.drop_zero, List.drop_zero, List.drop_zero, P0]; rfl))
 ·(rw [plnL_len]; exact Q28)
open Go.V
set_option linter.unusedVariables false
set_option linter.unusedSimpArgs false
set_option maxRecDepth 20000
set_option maxHeartbeats 4000000
noncomputable instance dcSg2 (n : Int) (m : Msg) : Decidable (sgd mk bare n m) := Classical.propDecidable _
theorem r93 (n : Int) (m : Msg) : Pure En 93 [.one (.int .i64 n), .agg m.T] [.one (.bool (decide (sgd mk bare n m)))] := by
 refine Pure.of_ev (st := []) Tryz.func93 rfl kb ?_
 (apply C3 (vs := [.int _ _, .int _ _, .int _ _, .int _ _, .str _, .str _, .str _]) j2; exact Q0; rfl; rfl; exact kb; rfl)
 refine B0 (r165 m) rfl j2 ?_ ?_ <;> intro h1_1
 ·refine A1 ?_
  refine br ?_ ?_ <;> intro h1_6
  ·refine A1 ?_
   (apply C3 (vs := [.int _ _, .int _ _, .int _ _, .int _ _, .str _, .str _, .str _]) j2; exact Q0; rfl; rfl; exact kb; rfl)
   refine C1 (r167 m (by have := h1_1.dz; omega) h1_1.2.2.2.2.1) rfl rfl rfl ?_
   refine C1 (s91 m.fr true (plnL m) (by rw [plnL_len]; have := h1_1.dz; have := h1_1.2.2.2.2.1; omega) (plnL_bytes m)) rfl rfl rfl ?_
   refine A1 ?_
   refine br ?_ ?_ <;> intro h1_16
   ·first
    | (refine B7 rfl ?_; exact ⟨by assumption, by assumption, by rw [← plnL_str]; exact Eq.symm (by assumption)⟩)
    | (refine A7 rfl ?_; rintro ⟨q1, q2, q3⟩; rw [← plnL_str] at q3; first | exact absurd q1 (by assumption) | exact absurd q2 (by assumption) | exact absurd q3.symm (by assumption))
   ·first
    | (refine B7 rfl ?_; exact ⟨by assumption, by assumption, by rw [← plnL_str]; exact Eq.symm (by assumption)⟩)
    | (refine A7 rfl ?_; rintro ⟨q1, q2, q3⟩; rw [← plnL_str] at q3; first | exact absurd q1 (by assumption) | exact absurd q2 (by assumption) | exact absurd q3.symm (by assumption))
  ·first
   | (refine B7 rfl ?_; exact ⟨by assumption, by assumption, by rw [← plnL_str]; exact Eq.symm (by assumption)⟩)
   | (refine A7 rfl ?_; rintro ⟨q1, q2, q3⟩; rw [← plnL_str] at q3; first | exact absurd q1 (by assumption) | exact absurd q2 (by assumption) | exact absurd q3.symm (by assumption))
 ·first
  | (refine B7 rfl ?_; exact ⟨by assumption, by assumption, by rw [← plnL_str]; exact Eq.symm (by assumption)⟩)
  | (refine A7 rfl ?_; rintro ⟨q1, q2, q3⟩; rw [← plnL_str] at q3; first | exact absurd q1 (by assumption) | exact absurd q2 (by assumption) | exact absurd q3.symm (by assumption))
open Go.V
set_option linter.unusedVariables false
set_option linter.unusedSimpArgs false
set_option maxRecDepth 20000
set_option maxHeartbeats 4000000
def mR (p : ByteArray) : Msg := if msL p then msC p else Msg0
def msN (p : ByteArray) : Nat := (num p (msD p) 2).toNat
def mB (p : ByteArray) : Msg := ⟨bt p 0, bt p 1, bt p 2, bt p 3, p.extract 5 (msD p), p.extract (msD p + 2) (msD p + 2 + msN p), p.extract (msD p + 2 + msN p) p.size⟩
theorem mB_eq (p : ByteArray) : mB p = msC p := by unfold mB msC; rw [num_1, num_1, num_1, num_1]; rfl
theorem T1 (p : ByteArray) : msE p = msD p + 2 + msN p := rfl
theorem r227 (p : ByteArray) (hp : p.size ≤ 1000000) : Pure En 227 [.one (.str p)] [.agg (mR p).T, .one (.bool (decide (mOK p)))] := by
 refine Pure.of_ev (st := []) Tryz.func227 rfl kb ?_
 have hb0 := U1 p 4
 have hb1 := F8 p 4
 have hn4 : num p 4 1 = bt p 4 := num_1 _ _
 refine br ?_ ?_ <;> intro h1_2
 ·(apply est (u := .agg [.int _ _, .int _ _, .int _ _, .int _ _, .str _, .str _, .str _]) j3; exact Q0; rfl; exact j4; exact kb; rfl)
  have hno : ¬ msL p := by
   rintro ⟨e1, e2, e3⟩
   rw [T1] at e3
   have hd : (5 + bt p 4 : Int) = ((msD p : Nat) : Int) := by unfold msD; rw [hn4]; omega
   omega
  rw [show mR p = Msg0 from if_neg hno, decide_eq_false (fun e : mOK p => hno e.1)]
  refine C9 [] (A0 (A3 rfl (by exact Q0) j2 kb rfl) (A0 rfl A2)) ?_
  exact (SnapL.cons _ _ _ _ (SnapC.agg (.cons _ _ _ _ (.int _ _) (.cons _ _ _ _ (.int _ _) (.cons _ _ _ _ (.int _ _) (.cons _ _ _ _ (.int _ _) (.cons _ _ _ _ (.str _) (.cons _ _ _ _ (.str _) (.cons _ _ _ _ (.str _) .nil)))))))) (SnapL.cons _ _ _ _ (.one _ _ (.bool _)) SnapL.nil))
 ·refine lit 4 rfl (sd (by first | omega | exact Int.ofNat_lt.1 (by exact Q4)) ?_)
  refine cvF ⟨by exact Q26, by exact Q26⟩ ?_
  refine D3 ⟨by exact Q4, by exact Q4⟩ ?_
  refine br ?_ ?_ <;> intro h1_10
  ·(apply est (u := .agg [.int _ _, .int _ _, .int _ _, .int _ _, .str _, .str _, .str _]) j3; exact Q0; rfl; exact j4; exact kb; rfl)
   have hno : ¬ msL p := by
    rintro ⟨e1, e2, e3⟩
    rw [T1] at e3
    have hd : (5 + bt p 4 : Int) = ((msD p : Nat) : Int) := by unfold msD; rw [hn4]; omega
    omega
   rw [show mR p = Msg0 from if_neg hno, decide_eq_false (fun e : mOK p => hno e.1)]
   refine C9 [] (A0 (A3 rfl (by exact Q0) j2 kb rfl) (A0 rfl A2)) ?_
   exact (SnapL.cons _ _ _ _ (SnapC.agg (.cons _ _ _ _ (.int _ _) (.cons _ _ _ _ (.int _ _) (.cons _ _ _ _ (.int _ _) (.cons _ _ _ _ (.int _ _) (.cons _ _ _ _ (.str _) (.cons _ _ _ _ (.str _) (.cons _ _ _ _ (.str _) .nil)))))))) (SnapL.cons _ _ _ _ (.one _ _ (.bool _)) SnapL.nil))
  ·refine lit 4 rfl (sd (by first | omega | exact Int.ofNat_lt.1 (by exact Q4)) ?_)
   refine cvF ⟨by exact Q26, by exact Q26⟩ ?_
   refine D3 ⟨by exact Q4, by exact Q4⟩ ?_
   have hd : (5 + bt p 4 : Int) = ((msD p : Nat) : Int) := by unfold msD; rw [hn4]; omega
   rw [hd]
   have hdl : msD p + 2 ≤ p.size := by omega
   refine D3 ⟨by exact Q4, by exact Q4⟩ ?_
   refine sd ⟨by exact Q4, by exact Q4, by exact Q4⟩ ?_
   refine C1 (r220 (p.extract (msD p) (msD p + 2)) (by rw [C7 hdl]; omega)) rfl rfl rfl ?_
   have hN : num (p.extract (msD p) (msD p + 2)) 0 (p.extract (msD p) (msD p + 2)).size = ((msN p : Nat) : Int) := by
    unfold msN
    rw [C7 hdl, Nat.add_sub_cancel_left, G3 hdl (by omega)]
    have := L2 p (msD p) 2
    show num p (msD p) 2 = _; omega
   rw [hN]
   have hNb : msN p ≤ 65535 := by have := S1 p (msD p); unfold msN; omega
   have hel := T1 p
   refine D3 ⟨by exact Q4, by exact Q4⟩ ?_
   refine D3 ⟨by exact Q4, by exact Q4⟩ ?_
   refine D3 ⟨by exact Q4, by exact Q4⟩ ?_
   refine br ?_ ?_ <;> intro h5_7
   ·(apply est (u := .agg [.int _ _, .int _ _, .int _ _, .int _ _, .str _, .str _, .str _]) j3; exact Q0; rfl; exact j4; exact kb; rfl)
    have hno : ¬ msL p := by
     rintro ⟨e1, e2, e3⟩
     rw [T1] at e3
     have hd : (5 + bt p 4 : Int) = ((msD p : Nat) : Int) := by unfold msD; rw [hn4]; omega
     omega
    rw [show mR p = Msg0 from if_neg hno, decide_eq_false (fun e : mOK p => hno e.1)]
    refine C9 [] (A0 (A3 rfl (by exact Q0) j2 kb rfl) (A0 rfl A2)) ?_
    exact (SnapL.cons _ _ _ _ (SnapC.agg (.cons _ _ _ _ (.int _ _) (.cons _ _ _ _ (.int _ _) (.cons _ _ _ _ (.int _ _) (.cons _ _ _ _ (.int _ _) (.cons _ _ _ _ (.str _) (.cons _ _ _ _ (.str _) (.cons _ _ _ _ (.str _) .nil)))))))) (SnapL.cons _ _ _ _ (.one _ _ (.bool _)) SnapL.nil))
   ·refine lit 0 rfl (sd (by first | omega | exact Int.ofNat_lt.1 (by exact Q4)) ?_)
    refine cvF ⟨by exact Q26, by exact Q26⟩ ?_
    refine lit 1 rfl (sd (by first | omega | exact Int.ofNat_lt.1 (by exact Q4)) ?_)
    refine cvF ⟨by exact Q26, by exact Q26⟩ ?_
    refine lit 2 rfl (sd (by first | omega | exact Int.ofNat_lt.1 (by exact Q4)) ?_)
    refine cvF ⟨by exact Q26, by exact Q26⟩ ?_
    refine lit 3 rfl (sd (by first | omega | exact Int.ofNat_lt.1 (by exact Q4)) ?_)
    refine cvF ⟨by exact Q26, by exact Q26⟩ ?_
    refine sd ⟨by exact Q4, by exact Q4, by exact Q4⟩ ?_
    refine D3 ⟨by exact Q4, by exact Q4⟩ ?_
    refine D3 ⟨by exact Q4, by exact Q4⟩ ?_
    refine D3 ⟨by exact Q4, by exact Q4⟩ ?_
    refine sd ⟨by exact Q4, by exact Q4, by exact Q4⟩ ?_
    refine D3 ⟨by exact Q4, by exact Q4⟩ ?_
    refine D3 ⟨by exact Q4, by exact Q4⟩ ?_
    refine sd ⟨by exact Q4, by exact Q4, by exact Q4⟩ ?_
    (apply est (u := .agg [.int _ _, .int _ _, .int _ _, .int _ _, .str _, .str _, .str _]) j3; exact Q0; rfl; exact j4; exact kb; rfl)
    refine L5 ?_
    (apply C3 (vs := [.int _ _, .int _ _, .int _ _, .int _ _, .str _, .str _, .str _]) j2; exact Q0; rfl; rfl; exact kb; rfl)
    (apply C3 (vs := [.int _ _, .int _ _, .int _ _, .int _ _, .str _, .str _, .str _]) j2; exact Q0; rfl; rfl; exact kb; rfl)
    refine B0 (r165 (mB p)) rfl j2 ?_ ?_ <;> intro h8_2
    ·(apply est (u := .agg [.int _ _, .int _ _, .int _ _, .int _ _, .str _, .str _, .str _]) j3; exact Q0; rfl; exact j4; exact kb; rfl)
     refine L5 ?_
     have hyes : msL p := ⟨by omega, hdl, by rw [T1]; omega⟩
     have he := mB_eq p
     rw [show mR p = mB p from (if_pos hyes).trans he.symm]
     first
     | rw [decide_eq_true (show mOK p from ⟨hyes, by rw [← he]; exact h8_2⟩)]
     | rw [decide_eq_false (show ¬ mOK p from fun e => h8_2 (by rw [he]; exact e.2))]
     refine C9 [] (A0 (A3 rfl (by exact Q0) j2 kb rfl) (A0 rfl A2)) ?_
     exact (SnapL.cons _ _ _ _ (SnapC.agg (.cons _ _ _ _ (.int _ _) (.cons _ _ _ _ (.int _ _) (.cons _ _ _ _ (.int _ _) (.cons _ _ _ _ (.int _ _) (.cons _ _ _ _ (.str _) (.cons _ _ _ _ (.str _) (.cons _ _ _ _ (.str _) .nil)))))))) (SnapL.cons _ _ _ _ (.one _ _ (.bool _)) SnapL.nil))
    ·(apply est (u := .agg [.int _ _, .int _ _, .int _ _, .int _ _, .str _, .str _, .str _]) j3; exact Q0; rfl; exact j4; exact kb; rfl)
     refine L5 ?_
     have hyes : msL p := ⟨by omega, hdl, by rw [T1]; omega⟩
     have he := mB_eq p
     rw [show mR p = mB p from (if_pos hyes).trans he.symm]
     first
     | rw [decide_eq_true (show mOK p from ⟨hyes, by rw [← he]; exact h8_2⟩)]
     | rw [decide_eq_false (show ¬ mOK p from fun e => h8_2 (by rw [he]; exact e.2))]
     refine C9 [] (A0 (A3 rfl (by exact Q0) j2 kb rfl) (A0 rfl A2)) ?_
     exact (SnapL.cons _ _ _ _ (SnapC.agg (.cons _ _ _ _ (.int _ _) (.cons _ _ _ _ (.int _ _) (.cons _ _ _ _ (.int _ _) (.cons _ _ _ _ (.int _ _) (.cons _ _ _ _ (.str _) (.cons _ _ _ _ (.str _) (.cons _ _ _ _ (.str _) .nil)))))))) (SnapL.cons _ _ _ _ (.one _ _ (.bool _)) SnapL.nil))
open Go.V
set_option linter.unusedVariables false
set_option linter.unusedSimpArgs false
set_option maxRecDepth 20000
set_option maxHeartbeats 4000000
structure LR where
 i : Nat
 l : List ByteArray
 o : Nat
 b : Nat
 m : Nat
 g : Heap
structure LRI (p : ByteArray) (a : LR) : Prop where
 il : (a.i : Int) ≤ bt p 0
 sg : sg p a.i = some (a.l, a.o)
 sh : short a.l
 out : a.g a.b = some ⟨a.l.map tV, 1, 9⟩
 bm : a.b < a.m
theorem lsC_at {p : ByteArray} (h1 : 1 ≤ p.size) (h2 : bt p 0 ≤ 100) {l : List ByteArray} {o : Nat} (h : sg p (bt p 0).toNat = some (l, o)) : lsC p = if o = p.size ∧ short l then some l else none := by
 unfold lsC
 rw [num_1, if_pos ⟨h1, h2⟩, h]
theorem lsC_cut {p : ByteArray} {i : Nat} (h1 : 1 ≤ p.size) (hi : (i : Int) < bt p 0) {l : List ByteArray} {o : Nat} (h : sg p i = some (l, o)) (hc : ¬ (o + 2 ≤ p.size ∧ o + 2 + (num p o 2).toNat ≤ p.size) ∨ 20000 < (num p o 2).toNat) : lsC p = none := by
 unfold lsC
 rw [num_1]
 split
 ·by_cases c : o + 2 ≤ p.size ∧ o + 2 + (num p o 2).toNat ≤ p.size
  ·have hN := hc.resolve_left (fun q => q c)
   have hy := Y9 h c
   have key : ∀ (j : Nat) (l2 : List ByteArray) (o2 : Nat), i + 1 ≤ j → sg p j = some (l2, o2) → ¬ short l2 := by
    intro j
    induction j with
    | zero => intro l2 o2 hj; omega
    | succ j ih =>
     intro l2 o2 hj hs hsh
     by_cases e : i + 1 = j + 1
     ·rw [← e, hy] at hs
      cases hs
      have := hsh _ (List.mem_append_right _ (List.mem_singleton.2 rfl))
      rw [C7 c.2] at this
      omega
     ·match e2 : sg p j with
      | none => rw [sg_mono e2] at hs; cases hs
      | some (l3, o3) =>
       by_cases c3 : o3 + 2 ≤ p.size ∧ o3 + 2 + (num p o3 2).toNat ≤ p.size
       ·rw [Y9 e2 c3] at hs
        cases hs
        exact ih l3 o3 (by omega) e2 (fun s q => hsh s (List.mem_append_left _ q))
       ·rw [sg_no e2 c3] at hs; cases hs
   match e : sg p (bt p 0).toNat with
   | none => rfl
   | some (l2, o2) =>
    show (if o2 = p.size ∧ short l2 then some l2 else none) = none
    rw [if_neg (fun q => key _ l2 o2 (by omega) e q.2)]
  ·rw [sg_none (sg_no h c) (j := (bt p 0).toNat) (by omega)]
 ·rfl
open Go.V
set_option linter.unusedVariables false
set_option linter.unusedSimpArgs false
set_option maxRecDepth 20000
set_option maxHeartbeats 4000000
theorem ne_pos {p : ByteArray} (h : ¬ p = ⟨#[]⟩) : (0 : Int) < p.size := by
 have : p.size ≠ 0 := fun z => h (size0 z)
 omega
theorem r154 (p : ByteArray) (hp : p.size ≤ 1000000) : Pure En 154 [.one (.str p)] [.one (.sl false ((lsO p).map tT)), .one (.bool (lsC p).isSome)] := by
 refine Pure.of_ev (st := [7]) Tryz.func154 rfl kb ?_
 refine F7 (es := []) j4 kz kb rfl rfl ?_
 refine br ?_ ?_ <;> intro h2_1
 ·have hno : lsC p = none := by
   unfold lsC
   rw [if_neg]
   rintro ⟨e1, e2⟩
   rw [num_1] at e2
   first
   | (rw [h2_1] at e1; exact absurd e1 (by decide))
   | omega
  rw [show lsO p = [] by unfold lsO; rw [hno], hno]
  refine C9 [0] (A0 rfl (A0 rfl A2)) ?_
  exact (SnapL.cons _ _ _ _ (.one _ _ (.weak _ _ (B5 (b := ⟨[], 1, 9⟩) [] (List.mem_singleton.2 rfl) (by exact Q0) rfl rfl))) (SnapL.cons _ _ _ _ (.one _ _ (.bool _)) SnapL.nil))
 ·refine lit 0 rfl (sd (by first | omega | exact Int.ofNat_lt.1 (by exact P7)) ?_)
  refine br ?_ ?_ <;> intro h2_5
  ·have hno : lsC p = none := by
    unfold lsC
    rw [if_neg]
    rintro ⟨e1, e2⟩
    rw [num_1] at e2
    first
    | (rw [h2_1] at e1; exact absurd e1 (by decide))
    | omega
   rw [show lsO p = [] by unfold lsO; rw [hno], hno]
   refine C9 [0] (A0 rfl (A0 rfl A2)) ?_
   exact (SnapL.cons _ _ _ _ (.one _ _ (.weak _ _ (B5 (b := ⟨[], 1, 9⟩) [] (List.mem_singleton.2 rfl) (by exact Q0) rfl rfl))) (SnapL.cons _ _ _ _ (.one _ _ (.bool _)) SnapL.nil))
  ·have hp1 : 1 ≤ p.size := by
    rcases Nat.eq_zero_or_pos p.size with z | z
    ·exact absurd (size0 z) h2_1
    ·exact z
   have hbz := U1 p 0
   have hb100 : bt p 0 ≤ 100 := by omega
   refine lit 0 rfl (sd (by first | omega | exact Int.ofNat_lt.1 (by exact P7)) ?_)
   refine cvF ⟨by (first | exact bt_ge _ _ | exact bt_le _ _ | omega | exact P7), by (first | exact bt_ge _ _ | exact bt_le _ _ | omega | exact P7)⟩ ?_
   refine wlG fun g0 hg0 => ?_
   refine B3 (fun (a : LR) => [.str p, .unk, .unk, .unk, .view a.b 0 a.i, .int .i64 a.o, .int .i64 (bt p 0 - a.i)]) (fun (a : LR) => a.g) (fun (a : LR) => a.m) (fun (a : LR) => LRI p a) (fun (a : LR) => (bt p 0).toNat - a.i) ⟨0, [], 1, 0, 1, g0⟩ ?_ ?_ ?_ ?_ ?_
   ·refine ⟨by dsimp only; omega, rfl, fun s hs => (by cases hs), ?_, by dsimp only; omega⟩
    dsimp only; rw [hg0]; exact Q0
   ·(repeat first | exact LE.nil _ | refine LE.unk _ _ ?_ | refine LE.eq _ _ _ rfl ?_ | refine LE.eq _ _ _ (congrArg (V.int IntKind.i64) (show bt p 0 = bt p 0 - ((0 : Nat) : Int) by omega)) ?_)
   ·exact LessH.refl _
   ·exact Nat.le_refl _
   intro ⟨i, l, o, b, m, g⟩ hI ih
   have q0 := hI.il
   have hg := hI.out
   have q4 := hI.bm
   dsimp only at q0 hg q4 ⊢
   have hll := (sg_len hI.sg).1
   have hoo := (sg_len hI.sg).2.1 hp1
   dsimp only at hll hoo
   have hsg : sg p i = some (l, o) := hI.sg
   have hsh : short l := hI.sh
   refine A6 (st := [7]) ?_
   refine br ?_ ?_ <;> intro h6_1
   ·refine D3 ⟨by exact P7, by exact P7⟩ ?_
    refine br ?_ ?_ <;> intro h8_4
    ·refine F7 (es := []) j4 kz kb rfl rfl ?_
     have hno : lsC p = none := lsC_cut hp1 (by omega) hsg (.inl (by omega))
     rw [show lsO p = [] by unfold lsO; rw [hno], hno]
     refine C9 [m] (A0 rfl (A0 rfl A2)) ?_
     exact (SnapL.cons _ _ _ _ (.one _ _ (.weak _ _ (B5 (b := ⟨[], 1, 9⟩) [] (List.mem_singleton.2 rfl) (by exact Q0) rfl rfl))) (SnapL.cons _ _ _ _ (.one _ _ (.bool _)) SnapL.nil))
    ·refine D3 ⟨by exact P7, by exact P7⟩ ?_
     refine sd ⟨by exact P7, by exact P7, by exact P7⟩ ?_
     refine C1 (r220 (p.extract o (o + 2)) (by rw [C7 (by omega)]; omega)) rfl rfl rfl ?_
     have hN : num (p.extract o (o + 2)) 0 (p.extract o (o + 2)).size = (((num p o 2).toNat : Nat) : Int) := by
      rw [C7 (by omega), Nat.add_sub_cancel_left, G3 (by omega) (by omega)]
      have := L2 p o 2
      show num p o 2 = _; omega
     rw [hN]
     have hNb : (num p o 2).toNat ≤ 65535 := by have := S1 p o; omega
     refine br ?_ ?_ <;> intro h11_1
     ·refine F7 (es := []) j4 kz kb rfl rfl ?_
      have hno : lsC p = none := lsC_cut hp1 (by omega) hsg (by first | exact .inr (by omega) | exact .inl (by omega))
      rw [show lsO p = [] by unfold lsO; rw [hno], hno]
      refine C9 [m] (A0 rfl (A0 rfl A2)) ?_
      exact (SnapL.cons _ _ _ _ (.one _ _ (.weak _ _ (B5 (b := ⟨[], 1, 9⟩) [] (List.mem_singleton.2 rfl) (by exact Q0) rfl rfl))) (SnapL.cons _ _ _ _ (.one _ _ (.bool _)) SnapL.nil))
     ·refine D3 ⟨by exact P7, by exact P7⟩ ?_
      refine D3 ⟨by exact P7, by exact P7⟩ ?_
      refine br ?_ ?_ <;> intro h11_9
      ·refine F7 (es := []) j4 kz kb rfl rfl ?_
       have hno : lsC p = none := lsC_cut hp1 (by omega) hsg (by first | exact .inr (by omega) | exact .inl (by omega))
       rw [show lsO p = [] by unfold lsO; rw [hno], hno]
       refine C9 [m] (A0 rfl (A0 rfl A2)) ?_
       exact (SnapL.cons _ _ _ _ (.one _ _ (.weak _ _ (B5 (b := ⟨[], 1, 9⟩) [] (List.mem_singleton.2 rfl) (by exact Q0) rfl rfl))) (SnapL.cons _ _ _ _ (.one _ _ (.bool _)) SnapL.nil))
      ·refine D3 ⟨by exact P7, by exact P7⟩ ?_
       refine D3 ⟨by exact P7, by exact P7⟩ ?_
       refine D3 ⟨by exact P7, by exact P7⟩ ?_
       refine sd ⟨by exact P7, by exact P7, by exact P7⟩ ?_
       refine F7 (es := [[.str _]]) j4 kz kb rfl rfl ?_
       (apply eap (s' := 16) (es := [[.str _]]) rfl rfl; exact Q0; exact j2; exact Q29; exact j2; exact kz; exact L7; exact Q3; exact Q6; exact Q6)
       refine D3 ⟨by exact P7, by exact P7⟩ ?_
       refine D3 ⟨by exact P7, by exact P7⟩ ?_
       refine O4 fun G hG => ?_
       refine D3 ⟨by exact P7, by exact P7⟩ ?_
       have hst1 : (o : Int) + (2 + (((num p o 2).toNat : Nat) : Int)) = ((o + 2 + (num p o 2).toNat : Nat) : Int) := by omega
       have hst2 : bt p 0 - (i : Int) - 1 = bt p 0 - ((i + 1 : Nat) : Int) := by omega
       refine C6 (ih ⟨i + 1, l ++ [p.extract (o + 2) (o + 2 + (num p o 2).toNat)], o + 2 + (num p o 2).toNat, m + 1, m + 1 + 1, G⟩ ⟨by dsimp only; omega, Y9 hsg (by omega), fun s hs => ?_, ?_, by dsimp only; omega⟩ (by dsimp only; omega)) (by (repeat first | exact LE.nil _ | refine LE.unk _ _ ?_ | refine LE.eq _ _ _ rfl ?_ | refine LE.eq _ _ _ (congrArg (V.int IntKind.i64) hst1) ?_ | refine LE.eq _ _ _ (congrArg (V.int IntKind.i64) hst2) ?_)) (LessH.refl _) (Nat.le_refl _)
       ·rcases List.mem_append.1 hs with h | h
        ·exact hsh s h
        ·rw [List.mem_singleton.1 h, C7 (by omega)]; omega
       ·dsimp only; rw [hG]; show _ = some (Blk.mk ((l ++ [_]).map tV) 1 9); rw [List.map_append]; exact Q0
   ·refine br ?_ ?_ <;> intro h15_3
    ·refine F7 (es := []) j4 kz kb rfl rfl ?_
     have hi : i = (bt p 0).toNat := by omega
     have hno : lsC p = none := by rw [lsC_at hp1 (by omega) (hi ▸ hsg), if_neg]; rintro ⟨q, _⟩; omega
     rw [show lsO p = [] by unfold lsO; rw [hno], hno]
     refine C9 [m] (A0 rfl (A0 rfl A2)) ?_
     exact (SnapL.cons _ _ _ _ (.one _ _ (.weak _ _ (B5 (b := ⟨[], 1, 9⟩) [] (List.mem_singleton.2 rfl) (by exact Q0) rfl rfl))) (SnapL.cons _ _ _ _ (.one _ _ (.bool _)) SnapL.nil))
    ·have hi : i = (bt p 0).toNat := by omega
     have hyes : lsC p = some l := by rw [lsC_at hp1 (by omega) (hi ▸ hsg), if_pos ⟨by omega, hsh⟩]
     rw [show lsO p = l by unfold lsO; rw [hyes], hyes]
     refine C9 [b] (A0 rfl (A0 rfl A2)) (SnapL.cons _ _ _ _ (.one _ _ (.weak _ _ (B5 (b := ⟨l.map tV, 1, 9⟩) (l.map tT) (List.mem_singleton.2 rfl) (by exact Q0) (rowsT _).symm (by rw [List.length_map]; exact hll.symm)))) (SnapL.cons _ _ _ _ (.one _ _ (.bool _)) SnapL.nil))
open Go.V
set_option linter.unusedVariables false
set_option linter.unusedSimpArgs false
set_option maxRecDepth 20000
set_option maxHeartbeats 4000000
def crL (r : List ByteArray) : Nat → List Msg
 | 0 => []
 | i + 1 => crL r i ++ [mR (r.getD i ⟨#[]⟩)]
theorem crL_len (r : List ByteArray) : ∀ i, (crL r i).length = i
 | 0 => rfl
 | i + 1 => by show (crL r i ++ [_]).length = _; rw [List.length_append, crL_len r i]; rfl
theorem crL_tk {r : List ByteArray} : ∀ {i : Nat}, i ≤ r.length → (∀ j, j < i → pOf (r.getD j ⟨#[]⟩)) → crL r i = (r.take i).map msC
 | 0, _, _ => rfl
 | i + 1, h, hp => by
  show crL r i ++ [mR (r.getD i ⟨#[]⟩)] = _
  rw [crL_tk (by omega) (fun j hj => hp j (by omega)), show mR (r.getD i ⟨#[]⟩) = msC _ from if_pos (hp i (by omega)).1.1, List.take_succ_eq_append_getElem (by omega), List.map_append, show r.getD i ⟨#[]⟩ = r[i] by simp [show i < r.length by omega]]; rfl
theorem lsC_short {p : ByteArray} {l : List ByteArray} (h : lsC p = some l) : short l := by
 unfold lsC at h
 split at h
 ·split at h
  ·split at h
   ·next c => cases h; exact c.2
   ·cases h
  ·cases h
 ·cases h
structure CRI (s : ByteArray) (r : List ByteArray) (a : CS) : Prop where
 il : a.i ≤ r.length
 g0 : a.g 0 = CB ⟨#[]⟩ .nsl
 g1 : a.g 2 = CB s (.view a.b 0 a.i)
 out : a.g a.b = some ⟨(crL r a.i).map Msg.V, 7, 37⟩
 bm : 1 ≤ a.b ∧ a.b ≠ 2 ∧ a.b < a.m ∧ 3 ≤ a.m
 ok : ∀ j, j < a.i → pOf (r.getD j ⟨#[]⟩)
open Go.V
set_option linter.unusedVariables false
set_option linter.unusedSimpArgs false
set_option maxRecDepth 20000
set_option maxHeartbeats 4000000
theorem r155 (p : ByteArray) (hp : p.size ≤ 1000000) : Pure En 155 [.one (.str p)] [.agg ((ctX p).T false), .one (.bool (ctC p).isSome)] := by
 refine Pure.of_ev (st := [4, 7]) Tryz.func155 rfl kb ?_
 refine C1 (r154 p hp) rfl rfl rfl ?_
 refine brB ?_ ?_ <;> intro h1_4
 ·refine B0 (O3 _ _ _) rfl j2 ?_ ?_ <;> intro h2_5
  ·refine O4 fun G hG => ?_
   have hG0 : G 0 = CB ⟨#[]⟩ .nsl := by rw [hG]; exact Q0
   unfold CB at hG0
   have hls := J8 h1_4
   have hl8 : 1 ≤ (lsO p).length ∧ (lsO p).length ≤ 8 := by rw [List.length_map] at h2_5; omega
   have hsh := lsC_short hls
   obtain ⟨s, r, hbr⟩ : ∃ s r, lsO p = s :: r := by
    match e : lsO p with
    | [] => rw [e] at hl8; have := hl8.1; simp at this
    | s :: r => exact ⟨s, r, rfl⟩
   rw [hbr] at hls hl8 hsh ⊢
   have hr7 : r.length ≤ 7 := by rw [List.length_cons] at hl8; omega
   have hat := ct_at hls hr7
   have hshort : ∀ i, i < r.length → (r.getD i ⟨#[]⟩).size ≤ 20000 := fun i hi => hsh _ (List.mem_cons_of_mem _ (J7 hi))
   have hll : (List.map tT (s :: r)).length = r.length + 1 := by simp
   (refine B9 (C5 (by first | rfl | assumption | (first | rfl | exact B2 tT ⟨#[]⟩ (L := s :: r) (k := i + 1) (by rw [List.length_cons]; omega))) rfl ?_))
   refine F7 (es := []) j4 kz kb rfl rfl ?_
   (apply est (u := .agg [.str _, _]) j3; exact Q0; exact Q2; exact j4; exact kb; rfl)
   refine wlG fun g0 hg0 => ?_
   refine B3 (fun (a : CS) => [.unk, .unk, .ptr 0 0 0, .unk, .sl true false (List.map tT (s :: r)), .unk, .ptr 2 0 0, .int .i64 ((a.i + 1 : Nat) : Int)]) (fun (a : CS) => a.g) (fun (a : CS) => a.m) (fun (a : CS) => CRI s r a) (fun (a : CS) => r.length - a.i) ⟨0, .nsl, 1, 3, g0⟩ ?_ ?_ ?_ ?_ ?_
   ·refine ⟨Nat.zero_le _, ?_, ?_, ?_, by dsimp only; omega, E6⟩
    ·dsimp only; rw [hg0]; exact Q0
    ·dsimp only; rw [hg0]; exact Q0
    ·dsimp only; rw [hg0]; exact Q0
   ·(repeat first | exact LE.nil _ | refine LE.unk _ _ ?_ | refine LE.eq _ _ _ rfl ?_)
   ·exact LessH.refl _
   ·exact Nat.le_refl _
   intro ⟨i, o, b, m, g⟩ hI ih
   have q0 := hI.il
   have hg0 := hI.g0
   have hg1 := hI.g1
   have hg2 := hI.out
   have q4 := hI.bm
   have hok := hI.ok
   unfold CB at hg0 hg1
   dsimp only at q0 hg0 hg1 hg2 q4 hok ⊢
   have hrl := crL_len r i
   refine A6 (st := [4, 7]) ?_
   refine br ?_ ?_ <;> intro h6_3
   ·(refine B9 (C5 (by first | rfl | assumption | (first | rfl | exact B2 tT ⟨#[]⟩ (L := s :: r) (k := i + 1) (by rw [List.length_cons]; omega))) rfl ?_))
    refine C1 (r227 (r.getD i ⟨#[]⟩) (by have := hshort i (by omega); omega)) rfl rfl rfl ?_
    refine brB ?_ ?_ <;> intro h8_7
    ·(apply est (u := .agg [.int _ _, .int _ _, .int _ _, .int _ _, .str _, .str _, .str _]) j3; exact Q0; exact Q2; exact j4; exact kb; rfl)
     refine A1 ?_ (by exact Q0) (by exact Q2)
     refine br ?_ ?_ <;> intro h9_5
     ·(apply est (u := .agg [.str _, _]) j3; exact Q0; exact Q2; exact j4; exact kb; rfl)
      have hno : ctC p = none := by
       rw [hat, P6 (J7 (i := i) (by omega)) (fun q => ?_)]
       ·rfl
       ·first
        | exact absurd q.1 (of_decide_eq_false h8_7)
        | (rw [show mR (r.getD i ⟨#[]⟩) = msC _ from if_pos q.1.1] at h9_5; exact h9_5 q.2)
      rw [show ctX p = Ct0 by unfold ctX; rw [hno], hno]
      refine C9 [] (A0 (A3 rfl (by exact Q0) j2 kb rfl) (A0 rfl A2)) ?_
      exact (SnapL.cons _ _ _ _ (SnapC.agg (.cons _ _ _ _ (.str _) (.cons _ _ _ _ .nslW .nil))) (SnapL.cons _ _ _ _ (.one _ _ (.bool _)) SnapL.nil))
     ·refine A1 ?_ (by exact Q0) (by exact Q2)
      (apply C3 (vs := [.int _ _, .int _ _, .int _ _, .int _ _, .str _, .str _, .str _]) j2; exact Q0; exact Q2; rfl; exact kb; rfl)
      refine F7 (es := [[.int _ _, .int _ _, .int _ _, .int _ _, .str _, .str _, .str _]]) j4 kz kb rfl rfl ?_
      (apply eap (s' := 80) (es := [[.int _ _, .int _ _, .int _ _, .int _ _, .str _, .str _, .str _]]) rfl rfl; exact Q0; exact j2; exact Q29; exact j2; exact kz; exact L7; exact Q3; exact Q6; exact Q6)
      (apply est (u := .view _ _ _) j3; exact Q0; exact Q2; exact j4; exact kb; rfl)
      refine O4 fun G hG => ?_
      refine C0 ?_
      have hy : mOK (r.getD i ⟨#[]⟩) := of_decide_eq_true h8_7
      have hpi : pOf (r.getD i ⟨#[]⟩) := ⟨hy, by rw [show mR (r.getD i ⟨#[]⟩) = msC _ from if_pos hy.1] at h9_5; exact Classical.not_not.1 h9_5⟩
      refine C6 (ih ⟨i + 1, .nsl, m + 1 + 1, m + 1 + 1 + 1, G⟩ ⟨by dsimp only; omega, ?_, ?_, ?_, by dsimp only; omega, fun j hj => ?_⟩ (by dsimp only; omega)) (by (repeat first | exact LE.nil _ | refine LE.unk _ _ ?_ | refine LE.eq _ _ _ rfl ?_)) (LessH.refl _) (Nat.le_refl _)
      ·dsimp only; rw [hG]; exact Q0
      ·dsimp only; rw [hG]; exact Q0
      ·dsimp only; rw [hG]; show _ = some (Blk.mk ((crL r i ++ [_]).map Msg.V) 7 37); rw [List.map_append]; exact Q0
      ·rcases Nat.lt_succ_iff_lt_or_eq.1 hj with q | q
       ·exact hok j q
       ·rw [q]; exact hpi
    ·(apply est (u := .agg [.int _ _, .int _ _, .int _ _, .int _ _, .str _, .str _, .str _]) j3; exact Q0; exact Q2; exact j4; exact kb; rfl)
     (apply est (u := .agg [.str _, _]) j3; exact Q0; exact Q2; exact j4; exact kb; rfl)
     have hno : ctC p = none := by
      rw [hat, P6 (J7 (i := i) (by omega)) (fun q => ?_)]
      ·rfl
      ·first
       | exact absurd q.1 (of_decide_eq_false h8_7)
       | (rw [show mR (r.getD i ⟨#[]⟩) = msC _ from if_pos q.1.1] at h9_5; exact h9_5 q.2)
     rw [show ctX p = Ct0 by unfold ctX; rw [hno], hno]
     refine C9 [] (A0 (A3 rfl (by exact Q0) j2 kb rfl) (A0 rfl A2)) ?_
     exact (SnapL.cons _ _ _ _ (SnapC.agg (.cons _ _ _ _ (.str _) (.cons _ _ _ _ .nslW .nil))) (SnapL.cons _ _ _ _ (.one _ _ (.bool _)) SnapL.nil))
   ·(apply C3 (vs := [.str _, _]) j2; exact Q0; exact Q2; rfl; exact kb; rfl)
    (apply est (u := .agg [.str _, _]) j3; exact Q0; exact Q2; exact j4; exact kb; rfl)
    have hyes : ctC p = some ⟨s, crL r i⟩ := by
     obtain rfl : i = r.length := by omega
     rw [hat, mss_yes (pOf_all hok), crL_tk (Nat.le_refl _) hok, List.take_length]; rfl
    rw [show ctX p = ⟨s, crL r i⟩ by unfold ctX; rw [hyes], hyes]
    refine C9 [b] (A0 (A3 rfl (by exact Q0) j2 kb rfl) (A0 rfl A2)) ?_
    exact (SnapL.cons _ _ _ _ (SnapC.agg (.cons _ _ _ _ (.str _) (.cons _ _ _ _ (.weak _ _ (B5 (b := ⟨(crL r i).map Msg.V, 7, 37⟩) ((crL r i).map Msg.T) (List.mem_singleton.2 rfl) (by exact Q0) (rowsM _).symm (by rw [List.length_map, hrl]))) .nil))) (SnapL.cons _ _ _ _ (.one _ _ (.bool _)) SnapL.nil))
  ·(apply est (u := .agg [.str _, _]) j3; exact Q0; exact Q2; exact j4; exact kb; rfl)
   have hno : ctC p = none := by
    first
    | exact ct_len (J8 h1_4) (by rw [List.length_map] at h2_5; omega)
    | exact X6 (by match e : lsC p with | none => rfl | some l => rw [e] at h1_4; cases h1_4)
   rw [show ctX p = Ct0 by unfold ctX; rw [hno], hno]
   refine C9 [] (A0 (A3 rfl (by exact Q0) j2 kb rfl) (A0 rfl A2)) ?_
   exact (SnapL.cons _ _ _ _ (SnapC.agg (.cons _ _ _ _ (.str _) (.cons _ _ _ _ .nslW .nil))) (SnapL.cons _ _ _ _ (.one _ _ (.bool _)) SnapL.nil))
 ·(apply est (u := .agg [.str _, _]) j3; exact Q0; exact Q2; exact j4; exact kb; rfl)
  have hno : ctC p = none := by
   first
   | exact ct_len (J8 h1_4) (by rw [List.length_map] at h2_5; omega)
   | exact X6 (by match e : lsC p with | none => rfl | some l => rw [e] at h1_4; cases h1_4)
  rw [show ctX p = Ct0 by unfold ctX; rw [hno], hno]
  refine C9 [] (A0 (A3 rfl (by exact Q0) j2 kb rfl) (A0 rfl A2)) ?_
  exact (SnapL.cons _ _ _ _ (SnapC.agg (.cons _ _ _ _ (.str _) (.cons _ _ _ _ .nslW .nil))) (SnapL.cons _ _ _ _ (.one _ _ (.bool _)) SnapL.nil))
open Go.V
set_option linter.unusedVariables false
set_option linter.unusedSimpArgs false
set_option maxRecDepth 20000
set_option maxHeartbeats 4000000
theorem getVs {α : Type} (f : α → List V) (d : α) {L : List α} {i a : Nat} {v : List V} (hi : 0 < i) (h : i ≤ L.length) (ha : a = i) : ((L.map f).set a v)[0 + ((i : Int) - 1).toNat]? = some (f (L.getD (i - 1) d)) := by
 rw [List.getElem?_set_ne (by omega)]; exact getVm f d hi h
structure SS where
 i : Nat
 M : List Int
 g : Heap
structure SI (L : List Int) (u : Nat) (a : SS) : Prop where
 il : a.i ≤ u
 len : a.M.length = L.length
 g1 : a.g 1 = some ⟨a.M.map iV, 1, 3⟩
theorem r225 (L : List Int) (nn : Bool) (hne : L ≠ []) (hL : L.length ≤ 1048576) : ∃ M : List Int, M.length = L.length ∧ Pure En 225 [.one (.sl nn (L.map iT))] [.one (.sl true (M.map iT))] := by
 have hl : (L.map iT).length = L.length := List.length_map ..
 have hp := List.length_pos_iff.2 hne
 refine Pure.of_evX (st := [7]) (R := fun M : List Int => [.one (.sl true (M.map iT))]) (p := fun M : List Int => M.length = L.length) Tryz.func225 rfl kb ?_
 refine F7 (es := []) j4 kz kb rfl rfl ?_
 (apply eap (s' := 8)  rfl rfl; exact Q0; exact j2; exact Q29; exact j2; exact kz; exact L7; (first | rfl | assumption | (focus (intro c hc; obtain ⟨x, hx, rfl⟩ := List.mem_map.1 hc; obtain ⟨y, hy, rfl⟩ := List.mem_map.1 hx; rfl)) | (focus (simp; done)) | (focus (intro _ hc; rw [List.mem_singleton] at hc; subst hc; rfl)) | (intro _ _; simp_all)); (first | omega | (focus (simp only [List.length_cons, List.length_nil]; omega)) | (focus (rw [List.length_map, List.length_map]; omega))); (first | omega | (focus (simp only [List.length_cons, List.length_nil]; omega)) | (focus (rw [List.length_map, List.length_map]; omega))))
 refine wlG fun g0 hg0 => ?_
 refine B3 (fun (a : SS) => [.unk, .unk, .unk, .view 1 0 L.length, .int .i64 a.i]) (fun (a : SS) => a.g) (fun (a : SS) => 2) (fun (a : SS) => 1 ≤ a.i ∧ SI L L.length a) (fun (a : SS) => L.length - a.i) ⟨1, L, g0⟩ ?_ ?_ ?_ ?_ ?_
 ·refine ⟨Nat.le_refl _, by dsimp only; omega, rfl, ?_⟩
  dsimp only; rw [hg0]; (simp (disch := omega) only [↓app0, ↓appC, ↓updS, ↓updN]); exact congrArg (fun z => some (Blk.mk z 1 3)) (by rw [List.map_map]; rfl)
 ·(repeat first | exact LE.nil _ | refine LE.unk _ _ ?_ | refine LE.eq _ _ _ rfl ?_ | refine LE.eq _ _ _ (congrArg (V.view 1 0) (by rw [List.length_map, List.length_map, Nat.zero_add])) ?_)
 ·exact LessH.refl _
 ·exact Nat.le_refl _
 intro ⟨i, M, g⟩ hI ih
 obtain ⟨h1i, hI⟩ := hI
 have q0 := hI.il
 have ql := hI.len
 have qg := hI.g1
 have ihO := ih
 dsimp only at h1i q0 ql qg ⊢
 refine A6 (st := [7]) ?_
 refine br ?_ ?_ <;> intro h3_3
 ·refine B3 (fun (a : SS) => [.unk, .unk, .unk, .view 1 0 L.length, .int .i64 i, .int .i64 a.i]) (fun (a : SS) => a.g) (fun (a : SS) => 2) (fun (a : SS) => SI L i a) (fun (a : SS) => a.i) ⟨i, M, g⟩ ?_ ?_ ?_ ?_ ?_
  ·exact ⟨Nat.le_refl _, ql, qg⟩
  ·(repeat first | exact LE.nil _ | refine LE.unk _ _ ?_ | refine LE.eq _ _ _ rfl ?_)
  ·exact LessH.refl _
  ·exact Nat.le_refl _
  intro ⟨j, M2, g2⟩ hI ih
  have r0 := hI.il
  have rl := hI.len
  have rg := hI.g1
  dsimp only at r0 rl rg ⊢
  refine A6 (st := [7]) ?_
  refine br ?_ ?_ <;> intro h6_1
  ·refine C0 ?_
   (refine H1 (by exact Q0) ⟨rfl, B9 ?_⟩)
   refine A1 ?_ (by exact Q0) (by exact Q32)
   (refine H1 (by exact Q0) ⟨rfl, B9 ?_⟩)
   refine A1 ?_ (by exact Q0) (by exact Q32)
   refine br ?_ ?_ <;> intro h6_12
   ·(refine H1 (by exact Q0) ⟨rfl, B9 ?_⟩)
    refine A1 ?_ (by exact Q0) (by exact Q32)
    refine C0 ?_
    (refine H1 (by exact Q0) ⟨rfl, B9 ?_⟩)
    refine A1 ?_ (by exact Q0) (by exact Q32)
    (refine H1 (by exact Q0) ⟨rfl, B9 ?_⟩)
    (apply est (u := .int _ _) j3; exact Q0; exact Q32; exact j4; exact kb; rfl)
    refine C0 ?_
    (refine H1 (by exact Q0) ⟨rfl, B9 ?_⟩)
    (apply est (u := .int _ _) j3; exact Q0; exact Q32; exact j4; exact kb; rfl)
    refine O4 fun G hG => ?_
    refine C0 ?_
    have hst : (j : Int) - 1 = ((j - 1 : Nat) : Int) := by omega
    have hjt : ((j : Int) - 1).toNat = j - 1 := by omega
    refine C6 (ih ⟨j - 1, (M2.set j (M2.getD (j - 1) 0)).set (j - 1) (M2.getD j 0), G⟩ ⟨by dsimp only; omega, by dsimp only; rw [List.length_set, List.length_set]; exact rl, ?_⟩ (by dsimp only; omega)) (by (repeat first | exact LE.nil _ | refine LE.unk _ _ ?_ | refine LE.eq _ _ _ rfl ?_ | refine LE.eq _ _ _ (congrArg (V.int IntKind.i64) hst) ?_)) (LessH.refl _) (Nat.le_refl _)
    dsimp only
    rw [List.map_set, List.map_set, hG]
    (simp (disch := omega) only [↓app0, ↓appC, ↓updS, ↓updN, Nat.zero_add, Int.toNat_natCast, hjt])
    rfl
   ·refine C0 ?_
    exact C6 (ihO ⟨i + 1, M2, g2⟩ ⟨by dsimp only; omega, by dsimp only; omega, hI.len, hI.g1⟩ (by dsimp only; omega)) (by (repeat first | exact LE.nil _ | refine LE.unk _ _ ?_ | refine LE.eq _ _ _ rfl ?_)) (LessH.refl _) (Nat.le_refl _)
  ·refine C0 ?_
   exact C6 (ihO ⟨i + 1, M2, g2⟩ ⟨by dsimp only; omega, by dsimp only; omega, hI.len, hI.g1⟩ (by dsimp only; omega)) (by (repeat first | exact LE.nil _ | refine LE.unk _ _ ?_ | refine LE.eq _ _ _ rfl ?_)) (LessH.refl _) (Nat.le_refl _)
 ·refine ⟨M, hI.len, C9 [1] (A0 rfl A2) (SnapL.cons _ _ _ _ (.one _ _ (B5 (b := ⟨M.map iV, 1, 3⟩) (M.map iT) (List.mem_singleton.2 rfl) (by exact Q0) (rowsI _).symm (by rw [List.length_map]; exact hI.len.symm))) SnapL.nil)⟩
open Go.V
set_option linter.unusedVariables false
set_option linter.unusedSimpArgs false
set_option maxRecDepth 20000
set_option maxHeartbeats 4000000
structure TR2 where
 i : Nat
 b : Nat
 m : Nat
 g : Heap
structure TRI (n : Int) (rs : List Rg) (a : TR2) : Prop where
 il : a.i ≤ rs.length
 out : a.g a.b = some ⟨(vlL rs a.i).map iV, 1, 3⟩
 bm : a.b < a.m
 ok : ∀ j, j < a.i → tmR n rs j
theorem r152_1 (rs : List Rg) (nn : Bool) : ∃ t : Int, True ∧ Pure En 152 [.one (.int .i64 1), .one (.sl nn (rs.map Rg.T))] [.one (.int .i64 t), .one (.bool (decide (timeOK rdM 1 rs)))] := by
 have hl : (rs.map Rg.T).length = rs.length := List.length_map ..
 have hq : quo 1 = 1 := by decide
 refine Pure.of_evX (st := [7]) (R := fun t : Int => [.one (.int .i64 t), .one (.bool (decide (timeOK rdM 1 rs)))]) (p := fun _ => True) Tryz.func152 rfl kb ?_
 refine C0 ?_
 refine B9 ?_
 rw [show IntKind.i64.wrap (((1 : Int) - 1).tdiv 3) = 0 from by decide]
 refine C0 ?_
 refine C0 ?_
 refine br ?_ ?_ <;> intro h2_5
 ·have hno : ¬ timeOK rdM 1 rs := fun e => by have := e.1; rw [hq] at this; omega
  refine ⟨0, trivial, ?_⟩
  rw [decide_eq_false hno]
  exact B4 rfl rfl
 ·refine F7 (es := []) j4 kz kb rfl rfl ?_
  refine wlG fun g0 hg0 => ?_
  refine B3 (fun (a : TR2) => [.int .i64 1, .sl false nn (rs.map Rg.T), .unk, .unk, .unk, .unk, .int .i64 0, .view a.b 0 a.i, .int .i64 a.i]) (fun (a : TR2) => a.g) (fun (a : TR2) => a.m) (fun (a : TR2) => TRI 1 rs a) (fun (a : TR2) => rs.length - a.i) ⟨0, 0, 1, g0⟩ ?_ ?_ ?_ ?_ ?_
  ·refine ⟨Nat.zero_le _, ?_, by dsimp only; omega, E6⟩
   dsimp only; rw [hg0]; exact Q0
  ·(repeat first | exact LE.nil _ | refine LE.unk _ _ ?_ | refine LE.eq _ _ _ rfl ?_)
  ·exact LessH.refl _
  ·exact Nat.le_refl _
  intro ⟨i, b, m, g⟩ hI ih
  have q0 := hI.il
  have qg := hI.out
  have qm := hI.bm
  have hok := hI.ok
  dsimp only at q0 qg qm hok ⊢
  have hrl := S6 rs i
  refine A6 (st := [7]) ?_
  refine br ?_ ?_ <;> intro h6_3
  ·(refine B9 (C5 (by first | rfl | assumption | exact Q21) rfl ?_))
   (apply est (u := .agg [.int _ _, .int _ _, .str _]) j3; exact Q0; exact Q2; exact j4; exact kb; rfl)
   (apply C3 (vs := [.int _ _, .int _ _, .str _]) j2; exact Q0; exact Q2; rfl; exact kb; rfl)
   refine B0 (r223 (rs.getD i Rg0)) rfl j2 ?_ ?_ <;> intro h9_1
   ·refine A1 ?_ (by exact Q0) (by exact Q2)
    refine br ?_ ?_ <;> intro h9_7
    ·have hno : ¬ timeOK rdM 1 rs := fun e => by
      obtain ⟨⟨e1, e2, e3⟩, e4⟩ := e.2 i (by omega)
      first
      | exact h9_1 e1
      | omega
      | (have := e4 (by omega); omega)
      | exact h9_32 e3.symm
     refine ⟨0, trivial, ?_⟩
     rw [decide_eq_false hno]
     exact B4 rfl rfl
    ·refine br (fun h => absurd h ((by omega))) ?_
     intro h9_11
     refine A1 ?_ (by exact Q0) (by exact Q2)
     refine A1 ?_ (by exact Q0) (by exact Q2)
     refine C1 (r224 _ _) rfl rfl rfl ?_
     refine A1 ?_ (by exact Q0) (by exact Q2)
     refine br ?_ ?_ <;> intro h9_32
     ·have hno : ¬ timeOK rdM 1 rs := fun e => by
       obtain ⟨⟨e1, e2, e3⟩, e4⟩ := e.2 i (by omega)
       first
       | exact h9_1 e1
       | omega
       | (have := e4 (by omega); omega)
       | exact h9_32 e3.symm
      refine ⟨0, trivial, ?_⟩
      rw [decide_eq_false hno]
      exact B4 rfl rfl
     ·refine A1 ?_ (by exact Q0) (by exact Q2)
      refine F7 (es := [[.int _ _]]) j4 kz kb rfl rfl ?_
      (apply eap (s' := 8) (es := [[.int _ _]]) rfl rfl; exact Q0; exact j2; exact Q29; exact j2; exact kz; exact L7; exact Q3; exact Q6; exact Q6)
      refine O4 fun G hG => ?_
      refine C0 ?_
      have hit : tmR 1 rs i := ⟨⟨h9_1, by omega, (Classical.not_not.1 h9_32).symm⟩, fun _ => by omega⟩
      refine C6 (ih ⟨i + 1, m + 1 + 1, m + 1 + 1 + 1, G⟩ ⟨by dsimp only; omega, ?_, by dsimp only; omega, fun j hj => ?_⟩ (by dsimp only; omega)) (by (repeat first | exact LE.nil _ | refine LE.unk _ _ ?_ | refine LE.eq _ _ _ rfl ?_)) (LessH.refl _) (Nat.le_refl _)
      ·dsimp only; rw [hG]; show _ = some (Blk.mk ((vlL rs i ++ [_]).map iV) 1 3); rw [List.map_append]; exact Q0
      ·rcases Nat.lt_succ_iff_lt_or_eq.1 hj with q | q
       ·exact hok j q
       ·rw [q]; exact hit
   ·have hno : ¬ timeOK rdM 1 rs := fun e => by
     obtain ⟨⟨e1, e2, e3⟩, e4⟩ := e.2 i (by omega)
     first
     | exact h9_1 e1
     | omega
     | (have := e4 (by omega); omega)
     | exact h9_32 e3.symm
    refine ⟨0, trivial, ?_⟩
    rw [decide_eq_false hno]
    exact B4 rfl rfl
  ·have hvn : vlL rs i ≠ [] := fun e => by rw [e] at hrl; simp at hrl; omega
   apply eclSX [b] (r225 (vlL rs i) true hvn (by omega)) rfl j2
   ·exact SnapL.cons _ _ _ _ (.one _ _ (B5 (b := ⟨(vlL rs i).map iV, 1, 3⟩) ((vlL rs i).map iT) (List.mem_singleton.2 rfl) (by exact Q0) (rowsI _).symm (by rw [List.length_map]; exact hrl.symm))) SnapL.nil
   rintro M h12_1
   try dsimp only at h12_1
   (refine B9 (C5 (by first | rfl | assumption | exact Q21) rfl ?_))
   obtain rfl : i = rs.length := by omega
   have hyes : timeOK rdM 1 rs := ⟨by rw [hq]; omega, hok⟩
   refine ⟨M.getD (0 : Int).toNat 0, trivial, ?_⟩
   rw [decide_eq_true hyes]
   exact B4 rfl rfl
theorem r152_4 (rs : List Rg) (nn : Bool) : ∃ t : Int, True ∧ Pure En 152 [.one (.int .i64 4), .one (.sl nn (rs.map Rg.T))] [.one (.int .i64 t), .one (.bool (decide (timeOK rdM 4 rs)))] := by
 have hl : (rs.map Rg.T).length = rs.length := List.length_map ..
 have hq : quo 4 = 3 := by decide
 refine Pure.of_evX (st := [7]) (R := fun t : Int => [.one (.int .i64 t), .one (.bool (decide (timeOK rdM 4 rs)))]) (p := fun _ => True) Tryz.func152 rfl kb ?_
 refine C0 ?_
 refine B9 ?_
 rw [show IntKind.i64.wrap (((4 : Int) - 1).tdiv 3) = 1 from by decide]
 refine C0 ?_
 refine C0 ?_
 refine br ?_ ?_ <;> intro h2_5
 ·have hno : ¬ timeOK rdM 4 rs := fun e => by have := e.1; rw [hq] at this; omega
  refine ⟨0, trivial, ?_⟩
  rw [decide_eq_false hno]
  exact B4 rfl rfl
 ·refine F7 (es := []) j4 kz kb rfl rfl ?_
  refine wlG fun g0 hg0 => ?_
  refine B3 (fun (a : TR2) => [.int .i64 4, .sl false nn (rs.map Rg.T), .unk, .unk, .unk, .unk, .int .i64 1, .view a.b 0 a.i, .int .i64 a.i]) (fun (a : TR2) => a.g) (fun (a : TR2) => a.m) (fun (a : TR2) => TRI 4 rs a) (fun (a : TR2) => rs.length - a.i) ⟨0, 0, 1, g0⟩ ?_ ?_ ?_ ?_ ?_
  ·refine ⟨Nat.zero_le _, ?_, by dsimp only; omega, E6⟩
   dsimp only; rw [hg0]; exact Q0
  ·(repeat first | exact LE.nil _ | refine LE.unk _ _ ?_ | refine LE.eq _ _ _ rfl ?_)
  ·exact LessH.refl _
  ·exact Nat.le_refl _
  intro ⟨i, b, m, g⟩ hI ih
  have q0 := hI.il
  have qg := hI.out
  have qm := hI.bm
  have hok := hI.ok
  dsimp only at q0 qg qm hok ⊢
  have hrl := S6 rs i
  refine A6 (st := [7]) ?_
  refine br ?_ ?_ <;> intro h6_3
  ·(refine B9 (C5 (by first | rfl | assumption | exact Q21) rfl ?_))
   (apply est (u := .agg [.int _ _, .int _ _, .str _]) j3; exact Q0; exact Q2; exact j4; exact kb; rfl)
   (apply C3 (vs := [.int _ _, .int _ _, .str _]) j2; exact Q0; exact Q2; rfl; exact kb; rfl)
   refine B0 (r223 (rs.getD i Rg0)) rfl j2 ?_ ?_ <;> intro h9_1
   ·refine A1 ?_ (by exact Q0) (by exact Q2)
    refine br ?_ ?_ <;> intro h9_7
    ·have hno : ¬ timeOK rdM 4 rs := fun e => by
      obtain ⟨⟨e1, e2, e3⟩, e4⟩ := e.2 i (by omega)
      first
      | exact h9_1 e1
      | omega
      | (have := e4 (by omega); omega)
      | exact h9_32 e3.symm
     refine ⟨0, trivial, ?_⟩
     rw [decide_eq_false hno]
     exact B4 rfl rfl
    ·refine br ?_ ?_ <;> intro h9_11
     ·refine C0 ?_
      (refine B9 (C5 (by first | rfl | assumption | exact Q21) rfl ?_))
      refine A1 ?_ (by exact Q0) (by exact Q2)
      refine br ?_ ?_ <;> intro h9_21
      ·have hno : ¬ timeOK rdM 4 rs := fun e => by
        obtain ⟨⟨e1, e2, e3⟩, e4⟩ := e.2 i (by omega)
        first
        | exact h9_1 e1
        | omega
        | (have := e4 (by omega); omega)
        | exact h9_32 e3.symm
       refine ⟨0, trivial, ?_⟩
       rw [decide_eq_false hno]
       exact B4 rfl rfl
      ·refine A1 ?_ (by exact Q0) (by exact Q2)
       refine A1 ?_ (by exact Q0) (by exact Q2)
       refine C1 (r224 _ _) rfl rfl rfl ?_
       refine A1 ?_ (by exact Q0) (by exact Q2)
       refine br ?_ ?_ <;> intro h9_32
       ·have hno : ¬ timeOK rdM 4 rs := fun e => by
         obtain ⟨⟨e1, e2, e3⟩, e4⟩ := e.2 i (by omega)
         first
         | exact h9_1 e1
         | omega
         | (have := e4 (by omega); omega)
         | exact h9_32 e3.symm
        refine ⟨0, trivial, ?_⟩
        rw [decide_eq_false hno]
        exact B4 rfl rfl
       ·refine A1 ?_ (by exact Q0) (by exact Q2)
        refine F7 (es := [[.int _ _]]) j4 kz kb rfl rfl ?_
        (apply eap (s' := 8) (es := [[.int _ _]]) rfl rfl; exact Q0; exact j2; exact Q29; exact j2; exact kz; exact L7; exact Q3; exact Q6; exact Q6)
        refine O4 fun G hG => ?_
        refine C0 ?_
        have hit : tmR 4 rs i := ⟨⟨h9_1, by omega, (Classical.not_not.1 h9_32).symm⟩, fun _ => by omega⟩
        refine C6 (ih ⟨i + 1, m + 1 + 1, m + 1 + 1 + 1, G⟩ ⟨by dsimp only; omega, ?_, by dsimp only; omega, fun j hj => ?_⟩ (by dsimp only; omega)) (by (repeat first | exact LE.nil _ | refine LE.unk _ _ ?_ | refine LE.eq _ _ _ rfl ?_)) (LessH.refl _) (Nat.le_refl _)
        ·dsimp only; rw [hG]; show _ = some (Blk.mk ((vlL rs i ++ [_]).map iV) 1 3); rw [List.map_append]; exact Q0
        ·rcases Nat.lt_succ_iff_lt_or_eq.1 hj with q | q
         ·exact hok j q
         ·rw [q]; exact hit
     ·refine A1 ?_ (by exact Q0) (by exact Q2)
      refine A1 ?_ (by exact Q0) (by exact Q2)
      refine C1 (r224 _ _) rfl rfl rfl ?_
      refine A1 ?_ (by exact Q0) (by exact Q2)
      refine br ?_ ?_ <;> intro h9_32
      ·have hno : ¬ timeOK rdM 4 rs := fun e => by
        obtain ⟨⟨e1, e2, e3⟩, e4⟩ := e.2 i (by omega)
        first
        | exact h9_1 e1
        | omega
        | (have := e4 (by omega); omega)
        | exact h9_32 e3.symm
       refine ⟨0, trivial, ?_⟩
       rw [decide_eq_false hno]
       exact B4 rfl rfl
      ·refine A1 ?_ (by exact Q0) (by exact Q2)
       refine F7 (es := [[.int _ _]]) j4 kz kb rfl rfl ?_
       (apply eap (s' := 8) (es := [[.int _ _]]) rfl rfl; exact Q0; exact j2; exact Q29; exact j2; exact kz; exact L7; exact Q3; exact Q6; exact Q6)
       refine O4 fun G hG => ?_
       refine C0 ?_
       have hit : tmR 4 rs i := ⟨⟨h9_1, by omega, (Classical.not_not.1 h9_32).symm⟩, fun _ => by omega⟩
       refine C6 (ih ⟨i + 1, m + 1 + 1, m + 1 + 1 + 1, G⟩ ⟨by dsimp only; omega, ?_, by dsimp only; omega, fun j hj => ?_⟩ (by dsimp only; omega)) (by (repeat first | exact LE.nil _ | refine LE.unk _ _ ?_ | refine LE.eq _ _ _ rfl ?_)) (LessH.refl _) (Nat.le_refl _)
       ·dsimp only; rw [hG]; show _ = some (Blk.mk ((vlL rs i ++ [_]).map iV) 1 3); rw [List.map_append]; exact Q0
       ·rcases Nat.lt_succ_iff_lt_or_eq.1 hj with q | q
        ·exact hok j q
        ·rw [q]; exact hit
   ·have hno : ¬ timeOK rdM 4 rs := fun e => by
     obtain ⟨⟨e1, e2, e3⟩, e4⟩ := e.2 i (by omega)
     first
     | exact h9_1 e1
     | omega
     | (have := e4 (by omega); omega)
     | exact h9_32 e3.symm
    refine ⟨0, trivial, ?_⟩
    rw [decide_eq_false hno]
    exact B4 rfl rfl
  ·have hvn : vlL rs i ≠ [] := fun e => by rw [e] at hrl; simp at hrl; omega
   apply eclSX [b] (r225 (vlL rs i) true hvn (by omega)) rfl j2
   ·exact SnapL.cons _ _ _ _ (.one _ _ (B5 (b := ⟨(vlL rs i).map iV, 1, 3⟩) ((vlL rs i).map iT) (List.mem_singleton.2 rfl) (by exact Q0) (rowsI _).symm (by rw [List.length_map]; exact hrl.symm))) SnapL.nil
   rintro M h12_1
   try dsimp only at h12_1
   (refine B9 (C5 (by first | rfl | assumption | exact Q21) rfl ?_))
   obtain rfl : i = rs.length := by omega
   have hyes : timeOK rdM 4 rs := ⟨by rw [hq]; omega, hok⟩
   refine ⟨M.getD (1 : Int).toNat 0, trivial, ?_⟩
   rw [decide_eq_true hyes]
   exact B4 rfl rfl
theorem r152_7 (rs : List Rg) (nn : Bool) : ∃ t : Int, True ∧ Pure En 152 [.one (.int .i64 7), .one (.sl nn (rs.map Rg.T))] [.one (.int .i64 t), .one (.bool (decide (timeOK rdM 7 rs)))] := by
 have hl : (rs.map Rg.T).length = rs.length := List.length_map ..
 have hq : quo 7 = 5 := by decide
 refine Pure.of_evX (st := [7]) (R := fun t : Int => [.one (.int .i64 t), .one (.bool (decide (timeOK rdM 7 rs)))]) (p := fun _ => True) Tryz.func152 rfl kb ?_
 refine C0 ?_
 refine B9 ?_
 rw [show IntKind.i64.wrap (((7 : Int) - 1).tdiv 3) = 2 from by decide]
 refine C0 ?_
 refine C0 ?_
 refine br ?_ ?_ <;> intro h2_5
 ·have hno : ¬ timeOK rdM 7 rs := fun e => by have := e.1; rw [hq] at this; omega
  refine ⟨0, trivial, ?_⟩
  rw [decide_eq_false hno]
  exact B4 rfl rfl
 ·refine F7 (es := []) j4 kz kb rfl rfl ?_
  refine wlG fun g0 hg0 => ?_
  refine B3 (fun (a : TR2) => [.int .i64 7, .sl false nn (rs.map Rg.T), .unk, .unk, .unk, .unk, .int .i64 2, .view a.b 0 a.i, .int .i64 a.i]) (fun (a : TR2) => a.g) (fun (a : TR2) => a.m) (fun (a : TR2) => TRI 7 rs a) (fun (a : TR2) => rs.length - a.i) ⟨0, 0, 1, g0⟩ ?_ ?_ ?_ ?_ ?_
  ·refine ⟨Nat.zero_le _, ?_, by dsimp only; omega, E6⟩
   dsimp only; rw [hg0]; exact Q0
  ·(repeat first | exact LE.nil _ | refine LE.unk _ _ ?_ | refine LE.eq _ _ _ rfl ?_)
  ·exact LessH.refl _
  ·exact Nat.le_refl _
  intro ⟨i, b, m, g⟩ hI ih
  have q0 := hI.il
  have qg := hI.out
  have qm := hI.bm
  have hok := hI.ok
  dsimp only at q0 qg qm hok ⊢
  have hrl := S6 rs i
  refine A6 (st := [7]) ?_
  refine br ?_ ?_ <;> intro h6_3
  ·(refine B9 (C5 (by first | rfl | assumption | exact Q21) rfl ?_))
   (apply est (u := .agg [.int _ _, .int _ _, .str _]) j3; exact Q0; exact Q2; exact j4; exact kb; rfl)
   (apply C3 (vs := [.int _ _, .int _ _, .str _]) j2; exact Q0; exact Q2; rfl; exact kb; rfl)
   refine B0 (r223 (rs.getD i Rg0)) rfl j2 ?_ ?_ <;> intro h9_1
   ·refine A1 ?_ (by exact Q0) (by exact Q2)
    refine br ?_ ?_ <;> intro h9_7
    ·have hno : ¬ timeOK rdM 7 rs := fun e => by
      obtain ⟨⟨e1, e2, e3⟩, e4⟩ := e.2 i (by omega)
      first
      | exact h9_1 e1
      | omega
      | (have := e4 (by omega); omega)
      | exact h9_32 e3.symm
     refine ⟨0, trivial, ?_⟩
     rw [decide_eq_false hno]
     exact B4 rfl rfl
    ·refine br ?_ ?_ <;> intro h9_11
     ·refine C0 ?_
      (refine B9 (C5 (by first | rfl | assumption | exact Q21) rfl ?_))
      refine A1 ?_ (by exact Q0) (by exact Q2)
      refine br ?_ ?_ <;> intro h9_21
      ·have hno : ¬ timeOK rdM 7 rs := fun e => by
        obtain ⟨⟨e1, e2, e3⟩, e4⟩ := e.2 i (by omega)
        first
        | exact h9_1 e1
        | omega
        | (have := e4 (by omega); omega)
        | exact h9_32 e3.symm
       refine ⟨0, trivial, ?_⟩
       rw [decide_eq_false hno]
       exact B4 rfl rfl
      ·refine A1 ?_ (by exact Q0) (by exact Q2)
       refine A1 ?_ (by exact Q0) (by exact Q2)
       refine C1 (r224 _ _) rfl rfl rfl ?_
       refine A1 ?_ (by exact Q0) (by exact Q2)
       refine br ?_ ?_ <;> intro h9_32
       ·have hno : ¬ timeOK rdM 7 rs := fun e => by
         obtain ⟨⟨e1, e2, e3⟩, e4⟩ := e.2 i (by omega)
         first
         | exact h9_1 e1
         | omega
         | (have := e4 (by omega); omega)
         | exact h9_32 e3.symm
        refine ⟨0, trivial, ?_⟩
        rw [decide_eq_false hno]
        exact B4 rfl rfl
       ·refine A1 ?_ (by exact Q0) (by exact Q2)
        refine F7 (es := [[.int _ _]]) j4 kz kb rfl rfl ?_
        (apply eap (s' := 8) (es := [[.int _ _]]) rfl rfl; exact Q0; exact j2; exact Q29; exact j2; exact kz; exact L7; exact Q3; exact Q6; exact Q6)
        refine O4 fun G hG => ?_
        refine C0 ?_
        have hit : tmR 7 rs i := ⟨⟨h9_1, by omega, (Classical.not_not.1 h9_32).symm⟩, fun _ => by omega⟩
        refine C6 (ih ⟨i + 1, m + 1 + 1, m + 1 + 1 + 1, G⟩ ⟨by dsimp only; omega, ?_, by dsimp only; omega, fun j hj => ?_⟩ (by dsimp only; omega)) (by (repeat first | exact LE.nil _ | refine LE.unk _ _ ?_ | refine LE.eq _ _ _ rfl ?_)) (LessH.refl _) (Nat.le_refl _)
        ·dsimp only; rw [hG]; show _ = some (Blk.mk ((vlL rs i ++ [_]).map iV) 1 3); rw [List.map_append]; exact Q0
        ·rcases Nat.lt_succ_iff_lt_or_eq.1 hj with q | q
         ·exact hok j q
         ·rw [q]; exact hit
     ·refine A1 ?_ (by exact Q0) (by exact Q2)
      refine A1 ?_ (by exact Q0) (by exact Q2)
      refine C1 (r224 _ _) rfl rfl rfl ?_
      refine A1 ?_ (by exact Q0) (by exact Q2)
      refine br ?_ ?_ <;> intro h9_32
      ·have hno : ¬ timeOK rdM 7 rs := fun e => by
        obtain ⟨⟨e1, e2, e3⟩, e4⟩ := e.2 i (by omega)
        first
        | exact h9_1 e1
        | omega
        | (have := e4 (by omega); omega)
        | exact h9_32 e3.symm
       refine ⟨0, trivial, ?_⟩
       rw [decide_eq_false hno]
       exact B4 rfl rfl
      ·refine A1 ?_ (by exact Q0) (by exact Q2)
       refine F7 (es := [[.int _ _]]) j4 kz kb rfl rfl ?_
       (apply eap (s' := 8) (es := [[.int _ _]]) rfl rfl; exact Q0; exact j2; exact Q29; exact j2; exact kz; exact L7; exact Q3; exact Q6; exact Q6)
       refine O4 fun G hG => ?_
       refine C0 ?_
       have hit : tmR 7 rs i := ⟨⟨h9_1, by omega, (Classical.not_not.1 h9_32).symm⟩, fun _ => by omega⟩
       refine C6 (ih ⟨i + 1, m + 1 + 1, m + 1 + 1 + 1, G⟩ ⟨by dsimp only; omega, ?_, by dsimp only; omega, fun j hj => ?_⟩ (by dsimp only; omega)) (by (repeat first | exact LE.nil _ | refine LE.unk _ _ ?_ | refine LE.eq _ _ _ rfl ?_)) (LessH.refl _) (Nat.le_refl _)
       ·dsimp only; rw [hG]; show _ = some (Blk.mk ((vlL rs i ++ [_]).map iV) 1 3); rw [List.map_append]; exact Q0
       ·rcases Nat.lt_succ_iff_lt_or_eq.1 hj with q | q
        ·exact hok j q
        ·rw [q]; exact hit
   ·have hno : ¬ timeOK rdM 7 rs := fun e => by
     obtain ⟨⟨e1, e2, e3⟩, e4⟩ := e.2 i (by omega)
     first
     | exact h9_1 e1
     | omega
     | (have := e4 (by omega); omega)
     | exact h9_32 e3.symm
    refine ⟨0, trivial, ?_⟩
    rw [decide_eq_false hno]
    exact B4 rfl rfl
  ·have hvn : vlL rs i ≠ [] := fun e => by rw [e] at hrl; simp at hrl; omega
   apply eclSX [b] (r225 (vlL rs i) true hvn (by omega)) rfl j2
   ·exact SnapL.cons _ _ _ _ (.one _ _ (B5 (b := ⟨(vlL rs i).map iV, 1, 3⟩) ((vlL rs i).map iT) (List.mem_singleton.2 rfl) (by exact Q0) (rowsI _).symm (by rw [List.length_map]; exact hrl.symm))) SnapL.nil
   rintro M h12_1
   try dsimp only at h12_1
   (refine B9 (C5 (by first | rfl | assumption | exact Q21) rfl ?_))
   obtain rfl : i = rs.length := by omega
   have hyes : timeOK rdM 7 rs := ⟨by rw [hq]; omega, hok⟩
   refine ⟨M.getD (2 : Int).toNat 0, trivial, ?_⟩
   rw [decide_eq_true hyes]
   exact B4 rfl rfl
theorem r152 (n : Int) (hn : nodes n) (rs : List Rg) (nn : Bool) : ∃ t : Int, True ∧ Pure En 152 [.one (.int .i64 n), .one (.sl nn (rs.map Rg.T))] [.one (.int .i64 t), .one (.bool (decide (timeOK rdM n rs)))] := by
 rcases hn with rfl | rfl | rfl
 ·exact r152_1 rs nn
 ·exact r152_4 rs nn
 ·exact r152_7 rs nn
open Go.V
set_option linter.unusedVariables false
set_option linter.unusedSimpArgs false
set_option maxRecDepth 20000
set_option maxHeartbeats 4000000
def qD (p : ByteArray) (i : Nat) : ByteArray := p.extract (1 + 13 * (i : Int)).toNat (14 + 13 * (i : Int)).toNat
def rgD (p : ByteArray) (i : Nat) : Rg := ⟨bt (qD p i) 0, num ((qD p i).extract 1 5) 0 ((qD p i).extract 1 5).size, (qD p i).extract (5 : Int).toNat ((qD p i).size : Int).toNat⟩
theorem rgD_V (p : ByteArray) (i : Nat) : Rg.V (rgD p i) = [.int .i64 (bt (qD p i) 0), .int .i64 (num ((qD p i).extract 1 5) 0 ((qD p i).extract 1 5).size), .str ((qD p i).extract (5 : Int).toNat ((qD p i).size : Int).toNat)] := by
 dsimp only [Rg.V, rgD]
def rgs (p : ByteArray) (i : Nat) : List Rg := (List.range i).map (rgD p)
theorem rgs_len (p : ByteArray) (i : Nat) : (rgs p i).length = i := by unfold rgs; rw [List.length_map, List.length_range]
theorem rgs_succ (p : ByteArray) (i : Nat) : rgs p (i + 1) = rgs p i ++ [rgD p i] := by unfold rgs; rw [List.range_succ, List.map_append]; rfl
theorem rgD_eq {p : ByteArray} {i : Nat} (h : 14 + 13 * i ≤ p.size) : rgD p i = rgC p i := by
 have e1 : (1 + 13 * (i : Int)).toNat = 1 + 13 * i := by omega
 have e2 : (14 + 13 * (i : Int)).toNat = 14 + 13 * i := by omega
 have hs : (p.extract (1 + 13 * i) (14 + 13 * i)).size = 13 := by rw [C7 h]; omega
 unfold rgD rgC qD
 rw [e1, e2, bt_ext (by omega) h, Int.toNat_natCast, show (5 : Int).toNat = 5 from rfl, hs, S0 (by omega), S0 (by omega), C7 (by omega), num_1, show 1 + 13 * i + 5 - (1 + 13 * i + 1) = 4 by omega, G3 (by omega) (by omega), Nat.add_zero, Nat.add_zero,
  show 1 + 13 * i + 1 = 2 + 13 * i by omega, show 1 + 13 * i + 5 = 6 + 13 * i by omega, show 1 + 13 * i + 13 = 14 + 13 * i by omega]
theorem rgs_eq {p : ByteArray} : ∀ {k : Nat}, 1 + 13 * k ≤ p.size → rgs p k = (List.range k).map (rgC p)
 | 0, _ => rfl
 | k + 1, h => by rw [rgs_succ, rgs_eq (by omega), rgD_eq (by omega), List.range_succ, List.map_append]; rfl
def rbQ (p : ByteArray) : ByteArray := p.extract (1 + 13 * (bt p 0 - 1)).toNat p.size
noncomputable def rbL (p : ByteArray) : Bt := ⟨false, rqR (rbQ p), rgs p (bt p 0 - 1).toNat⟩
noncomputable def rbX (p : ByteArray) : Bt := if p = ⟨#[]⟩ then BtZ else if bt p 0 = 0 then BtN else if (p.size : Int) < 1 + 13 * (bt p 0 - 1) then BtZ else rbL p
theorem rb_ne {p : ByteArray} (h : p ≠ ⟨#[]⟩) : 1 ≤ p.size := by
 rcases Nat.eq_zero_or_pos p.size with q | q
 ·exact absurd (size0 q) h
 ·exact q
theorem rb_e {p : ByteArray} (h : p = ⟨#[]⟩) : ¬ bOK p := by
 subst h
 rintro (e | ⟨e, _⟩)
 ·cases e
 ·have := e.1; have : (⟨#[]⟩ : ByteArray).size = 0 := rfl; omega
theorem rb_0 {p : ByteArray} (h : p ≠ ⟨#[]⟩) (h0 : bt p 0 = 0) : bOK p ↔ p.size = 1 := by
 have h1 := rb_ne h
 constructor
 ·rintro (e | ⟨e, _⟩)
  ·exact ((I8 p).1 e).1
  ·have := e.2.1; rw [num_1] at this; omega
 ·intro e; exact .inl ((I8 p).2 ⟨e, by rw [num_1]; exact h0⟩)
theorem rb_n (p : ByteArray) : btN p = (bt p 0 - 1).toNat := by unfold btN; rw [num_1]
theorem rb_s {p : ByteArray} (h0 : bt p 0 ≠ 0) (h : (p.size : Int) < 1 + 13 * (bt p 0 - 1)) : ¬ bOK p := by
 have := U1 p 0
 rintro (e | ⟨e, _⟩)
 ·have := ((I8 p).1 e).2; rw [num_1] at this; omega
 ·have := e.2.2.1; rw [rb_n] at this; omega
theorem rb_q {p : ByteArray} (h0 : bt p 0 ≠ 0) (h : ¬ (p.size : Int) < 1 + 13 * (bt p 0 - 1)) : rbQ p = p.extract (1 + 13 * btN p) p.size := by
 have := U1 p 0
 unfold rbQ
 rw [rb_n, show (1 + 13 * (bt p 0 - 1)).toNat = 1 + 13 * (bt p 0 - 1).toNat by omega]
theorem rb_c {p : ByteArray} (h0 : bt p 0 ≠ 0) (h : ¬ (p.size : Int) < 1 + 13 * (bt p 0 - 1)) (hl : rqL (rbQ p) 0) : rbL p = btC p := by
 have h1 := U1 p 0
 have hn := rb_n p
 have hle : 1 + 13 * btN p ≤ p.size := by rw [hn]; omega
 unfold rbL btC
 rw [← hn, rgs_eq hle, show rqR (rbQ p) = rqC (rbQ p) 0 from if_pos hl]
 rw [rb_q h0 h] at hl ⊢
 rw [rqL_ext hle] at hl
 rw [rqC_ext hl.1]
theorem rb_ok {p : ByteArray} (h : p ≠ ⟨#[]⟩) (h0 : bt p 0 ≠ 0) (hs : ¬ (p.size : Int) < 1 + 13 * (bt p 0 - 1)) : bOK p ↔ (rqL (rbQ p) 0 ∧ (rqC (rbQ p) 0).OK) ∧ (rbL p).OK := by
 have h1 := rb_ne h
 have h2 := U1 p 0
 have hn := rb_n p
 have hle : 1 + 13 * btN p ≤ p.size := by rw [hn]; omega
 have hx : rqL (rbQ p) 0 ↔ rqL p (1 + 13 * btN p) := by rw [rb_q h0 hs]; exact rqL_ext hle
 constructor
 ·rintro (e | ⟨⟨_, _, _, e1⟩, e2⟩)
  ·have := ((I8 p).1 e).2; rw [num_1] at this; omega
  ·have hl := hx.2 e1
   have hc := rb_c h0 hs hl
   rw [← hc] at e2
   refine ⟨⟨hl, ?_⟩, e2⟩
   have e3 := e2
   unfold Bt.OK at e3
   rw [if_neg (by show ¬ false = true; exact Bool.noConfusion)] at e3
   have e4 := e3.1
   rwa [show (rbL p).rq = rqC (rbQ p) 0 from if_pos hl] at e4
 ·rintro ⟨⟨hl, _⟩, e⟩
  rw [rb_c h0 hs hl] at e
  exact .inr ⟨⟨h1, by rw [num_1]; omega, hle, hx.1 hl⟩, e⟩
theorem Y4 {p : ByteArray} (hb : bOK p) : rbX p = bX p := by
 have he : p ≠ ⟨#[]⟩ := fun e => rb_e e hb
 unfold rbX bX
 rw [if_neg he]
 by_cases h0 : bt p 0 = 0
 ·rw [if_pos h0, if_pos ((I8 p).2 ⟨(rb_0 he h0).1 hb, by rw [num_1]; exact h0⟩)]
 ·have hs : ¬ (p.size : Int) < 1 + 13 * (bt p 0 - 1) := fun q => rb_s h0 q hb
  have hk := (rb_ok he h0 hs).1 hb
  rw [if_neg h0, if_neg hs, if_neg (fun e => h0 (by rw [← num_1]; exact ((I8 p).1 e).2)), rb_c h0 hs hk.1.1]
structure RB where
 i : Nat
 b : Nat
 m : Nat
 g : Heap
structure RBI (p : ByteArray) (a : RB) : Prop where
 il : a.i ≤ (bt p 0 - 1).toNat
 g0 : a.g 0 = ZB RqZ .nsl
 g2 : a.g 2 = ZB RqZ (.view a.b 0 a.i)
 out : a.g a.b = some ⟨(rgs p a.i).map Rg.V, 3, 273⟩
 bm : a.b < a.m ∧ a.b ≠ 0 ∧ a.b ≠ 2
 mm : 3 ≤ a.m
theorem r151 (p : ByteArray) (hp : p.size ≤ 1000000) : Pure En 151 [.one (.str p)] [.agg ((rbX p).T false), .one (.bool (decide (bOK p)))] := by
 refine Pure.of_ev (st := [11]) Tryz.func151 rfl kb ?_
 refine br ?_ ?_ <;> intro h1_1
 ·(apply est (u := .agg [.bool _, .int _ _, .int _ _, .int _ _, .int _ _, .str _, _]) j3; exact Q0; exact Q2; exact j4; exact kb; rfl)
  rw [show rbX p = BtZ from if_pos h1_1, decide_eq_false (rb_e h1_1)]
  refine C9 [] (A0 (A3 rfl (by exact Q0) j2 kb rfl) (A0 rfl A2)) ?_
  exact (SnapL.cons _ _ _ _ (SnapC.agg (.cons _ _ _ _ (.bool _) (.cons _ _ _ _ (.int _ _) (.cons _ _ _ _ (.int _ _) (.cons _ _ _ _ (.int _ _) (.cons _ _ _ _ (.int _ _) (.cons _ _ _ _ (.str _) (.cons _ _ _ _ .nslW .nil)))))))) (SnapL.cons _ _ _ _ (.one _ _ (.bool _)) SnapL.nil))
 ·have hne := rb_ne h1_1
  have hb0 := U1 p 0
  have hb1 := F8 p 0
  refine lit 0 rfl (B9 ?_)
  refine cvA ?_
  refine br ?_ ?_ <;> intro h4_1
  ·refine F7 (es := []) j4 kz kb rfl rfl ?_
   refine br ?_ ?_ <;> intro h5_4
   ·(apply est (u := .agg [.bool _, .int _ _, .int _ _, .int _ _, .int _ _, .str _, _]) j3; exact Q0; exact Q2; exact j4; exact kb; rfl)
    rw [show rbX p = BtN from (if_neg h1_1).trans (if_pos h4_1)]
    first
    | (rw [decide_eq_true ((rb_0 h1_1 h4_1).2 (by omega))]; refine C9 [1] (A0 (A3 rfl (by exact Q0) j2 kb rfl) (A0 rfl A2)) ?_; exact (SnapL.cons _ _ _ _ (SnapC.agg (.cons _ _ _ _ (.bool _) (.cons _ _ _ _ (.int _ _) (.cons _ _ _ _ (.int _ _) (.cons _ _ _ _ (.int _ _) (.cons _ _ _ _ (.int _ _) (.cons _ _ _ _ (.str _) (.cons _ _ _ _ (.weak _ _ (B5 (b := ⟨[], 3, 273⟩) [] (List.mem_singleton.2 rfl) (by exact Q0) rfl rfl)) .nil)))))))) (SnapL.cons _ _ _ _ (.one _ _ (.bool _)) SnapL.nil)))
    | (rw [decide_eq_false (fun e => absurd ((rb_0 h1_1 h4_1).1 e) (by omega))]; refine C9 [1] (A0 (A3 rfl (by exact Q0) j2 kb rfl) (A0 rfl A2)) ?_; exact (SnapL.cons _ _ _ _ (SnapC.agg (.cons _ _ _ _ (.bool _) (.cons _ _ _ _ (.int _ _) (.cons _ _ _ _ (.int _ _) (.cons _ _ _ _ (.int _ _) (.cons _ _ _ _ (.int _ _) (.cons _ _ _ _ (.str _) (.cons _ _ _ _ (.weak _ _ (B5 (b := ⟨[], 3, 273⟩) [] (List.mem_singleton.2 rfl) (by exact Q0) rfl rfl)) .nil)))))))) (SnapL.cons _ _ _ _ (.one _ _ (.bool _)) SnapL.nil)))
   ·(apply est (u := .agg [.bool _, .int _ _, .int _ _, .int _ _, .int _ _, .str _, _]) j3; exact Q0; exact Q2; exact j4; exact kb; rfl)
    rw [show rbX p = BtN from (if_neg h1_1).trans (if_pos h4_1)]
    first
    | (rw [decide_eq_true ((rb_0 h1_1 h4_1).2 (by omega))]; refine C9 [1] (A0 (A3 rfl (by exact Q0) j2 kb rfl) (A0 rfl A2)) ?_; exact (SnapL.cons _ _ _ _ (SnapC.agg (.cons _ _ _ _ (.bool _) (.cons _ _ _ _ (.int _ _) (.cons _ _ _ _ (.int _ _) (.cons _ _ _ _ (.int _ _) (.cons _ _ _ _ (.int _ _) (.cons _ _ _ _ (.str _) (.cons _ _ _ _ (.weak _ _ (B5 (b := ⟨[], 3, 273⟩) [] (List.mem_singleton.2 rfl) (by exact Q0) rfl rfl)) .nil)))))))) (SnapL.cons _ _ _ _ (.one _ _ (.bool _)) SnapL.nil)))
    | (rw [decide_eq_false (fun e => absurd ((rb_0 h1_1 h4_1).1 e) (by omega))]; refine C9 [1] (A0 (A3 rfl (by exact Q0) j2 kb rfl) (A0 rfl A2)) ?_; exact (SnapL.cons _ _ _ _ (SnapC.agg (.cons _ _ _ _ (.bool _) (.cons _ _ _ _ (.int _ _) (.cons _ _ _ _ (.int _ _) (.cons _ _ _ _ (.int _ _) (.cons _ _ _ _ (.int _ _) (.cons _ _ _ _ (.str _) (.cons _ _ _ _ (.weak _ _ (B5 (b := ⟨[], 3, 273⟩) [] (List.mem_singleton.2 rfl) (by exact Q0) rfl rfl)) .nil)))))))) (SnapL.cons _ _ _ _ (.one _ _ (.bool _)) SnapL.nil)))
  ·refine C0 ?_
   refine C0 ?_
   refine C0 ?_
   refine br ?_ ?_ <;> intro h6_6
   ·(apply est (u := .agg [.bool _, .int _ _, .int _ _, .int _ _, .int _ _, .str _, _]) j3; exact Q0; exact Q2; exact j4; exact kb; rfl)
    rw [show rbX p = BtZ from (if_neg h1_1).trans ((if_neg h4_1).trans (if_pos h6_6)), decide_eq_false (rb_s h4_1 h6_6)]
    refine C9 [] (A0 (A3 rfl (by exact Q0) j2 kb rfl) (A0 rfl A2)) ?_
    exact (SnapL.cons _ _ _ _ (SnapC.agg (.cons _ _ _ _ (.bool _) (.cons _ _ _ _ (.int _ _) (.cons _ _ _ _ (.int _ _) (.cons _ _ _ _ (.int _ _) (.cons _ _ _ _ (.int _ _) (.cons _ _ _ _ (.str _) (.cons _ _ _ _ .nslW .nil)))))))) (SnapL.cons _ _ _ _ (.one _ _ (.bool _)) SnapL.nil))
   ·refine F7 (es := []) j4 kz kb rfl rfl ?_
    (apply est (u := .agg [.bool _, .int _ _, .int _ _, .int _ _, .int _ _, .str _, _]) j3; exact Q0; exact Q2; exact j4; exact kb; rfl)
    refine wlG fun g0 hg0 => ?_
    refine B3 (fun (a : RB) => [.str p, .unk, .ptr 0 0 0, .unk, .int .i64 (bt p 0), .ptr 2 0 0, .int .i64 a.i]) (fun (a : RB) => a.g) (fun (a : RB) => a.m) (fun (a : RB) => RBI p a) (fun (a : RB) => (bt p 0 - 1).toNat - a.i) ⟨0, 1, 3, g0⟩ ?_ ?_ ?_ ?_ ?_
    ·refine ⟨Nat.zero_le _, ?_, ?_, ?_, ⟨by dsimp only; omega, by dsimp only; omega, by dsimp only; omega⟩, by dsimp only; omega⟩
     ·dsimp only; rw [hg0]; exact Q0
     ·dsimp only; rw [hg0]; exact Q0
     ·dsimp only; rw [hg0]; exact Q0
    ·(repeat first | exact LE.nil _ | refine LE.unk _ _ ?_ | refine LE.eq _ _ _ rfl ?_)
    ·exact LessH.refl _
    ·exact Nat.le_refl _
    intro ⟨i, b, m, g⟩ hI ih
    have q0 := hI.il
    have hg0 := hI.g0
    have hg2 := hI.g2
    have hgb := hI.out
    have hbm := hI.bm
    have q4 := hI.mm
    unfold ZB RqZ at hg0 hg2
    dsimp only at q0 hg0 hg2 hgb hbm q4 ⊢
    have hrl := rgs_len p i
    refine A6 (st := [11]) ?_
    refine C0 ?_
    refine br ?_ ?_ <;> intro h10_3
    ·have hqs : (p.extract (1 + 13 * (i : Int)).toNat (14 + 13 * (i : Int)).toNat).size = 13 := by rw [C7 (by omega)]; omega
     refine C0 ?_
     refine C0 ?_
     refine C0 ?_
     refine C0 ?_
     refine B9 ?_
     refine A1 ?_ (by exact Q0) (by exact Q2)
     refine lit 0 rfl (B9 ?_)
     refine cvA ?_
     refine B9 ?_
     refine C1 (r220 ((p.extract (1 + 13 * (i : Int)).toNat (14 + 13 * (i : Int)).toNat).extract 1 5) (by rw [C7 (by omega)]; omega)) rfl rfl rfl ?_
     refine B9 ?_
     refine F7 (es := [[.int _ _, .int _ _, .str _]]) j4 kz kb rfl rfl ?_
     (apply eap (s' := 32) (es := [[.int _ _, .int _ _, .str _]]) rfl rfl; exact Q0; exact j2; (first | rfl | (rw [List.length_map]; omega)); exact j2; exact kz; exact L7; exact Q3; exact Q6; exact Q6)
     (apply est (u := .view _ _ _) j3; exact Q0; exact Q2; exact j4; exact kb; rfl)
     refine clr 15 [3, 0, 3, 3, 0, 0, 0, 0, 0, 0, 0, 0, 0, 1, 0] [(1, 11)] j2 (by decide +kernel) ?_ ?_
     ·first | (simp [ClearL, ids]; done) | (simp [ClearL, ids]; omega) | (simp [ClearL, ids, srcIds, Env.eval, put, upd, retV, A.toV, T.toV]; try omega)
     refine O4 fun G hG => ?_
     refine C0 ?_
     refine C6 (ih ⟨i + 1, m + 1, m + 1 + 1, G⟩ ⟨by dsimp only; omega, ?_, ?_, ?_, ⟨by dsimp only; omega, by dsimp only; omega, by dsimp only; omega⟩, by dsimp only; omega⟩ (by dsimp only; omega)) (by (repeat first | exact LE.nil _ | refine LE.unk _ _ ?_ | refine LE.eq _ _ _ rfl ?_)) (LessH.refl _) (Nat.le_refl _)
     ·dsimp only; rw [hG]; exact Q0
     ·dsimp only; rw [hG]; exact Q0
     ·dsimp only; rw [hG, rgs_succ, List.map_append, List.map_cons, List.map_nil, rgD_V]; exact Q0
    ·have hie : i = (bt p 0 - 1).toNat := by omega
     have hQ : (rbQ p).size ≤ 1000000 := by unfold rbQ; rw [C7 (Nat.le_refl _)]; omega
     refine C0 ?_
     refine C0 ?_
     refine C0 ?_
     refine B9 ?_
     refine C1 (r221 (rbQ p) hQ) rfl rfl rfl ?_
     refine brB ?_ ?_ <;> intro h14_9
     ·(apply est (u := .agg [.int _ _, .int _ _, .int _ _, .int _ _, .str _]) j3; exact Q0; exact Q2; exact j4; exact kb; rfl)
      (apply C3 (vs := [.int _ _, .int _ _, .int _ _, .int _ _, .str _]) j2; exact Q0; exact Q2; rfl; exact kb; rfl)
      (apply est (u := .agg [.int _ _, .int _ _, .int _ _, .int _ _, .str _]) j3; exact Q0; exact Q2; exact j4; exact kb; rfl)
      (apply C3 (vs := [.bool _, .int _ _, .int _ _, .int _ _, .int _ _, .str _, _]) j2; exact Q0; exact Q2; rfl; exact kb; rfl)
      (apply C3 (vs := [.bool _, .int _ _, .int _ _, .int _ _, .int _ _, .str _, _]) j2; exact Q0; exact Q2; rfl; exact kb; rfl)
      apply eclSP [b] (r222 ⟨false, rqR (rbQ p), rgs p i⟩ true) rfl j2
      ·exact SnapL.cons _ _ _ _ (SnapC.agg (.cons _ _ _ _ (.bool _) (.cons _ _ _ _ (.int _ _) (.cons _ _ _ _ (.int _ _) (.cons _ _ _ _ (.int _ _) (.cons _ _ _ _ (.int _ _) (.cons _ _ _ _ (.str _) (.cons _ _ _ _ (B5 (b := ⟨(rgs p i).map Rg.V, 3, 273⟩) ((rgs p i).map Rg.T) (List.mem_singleton.2 rfl) (by exact Q0) (I4 _).symm (by rw [List.length_map]; exact hrl.symm)) .nil)))))))) SnapL.nil
      all_goals intro h16_4
      ·(apply est (u := .agg [.bool _, .int _ _, .int _ _, .int _ _, .int _ _, .str _, _]) j3; exact Q0; exact Q2; exact j4; exact kb; rfl)
       refine L5 ?_
       have hxi : (⟨false, rqR (rbQ p), rgs p i⟩ : Bt) = rbL p := by unfold rbL; rw [← hie]
       have hk := rb_ok h1_1 h4_1 h6_6
       rw [show rbX p = rbL p from (if_neg h1_1).trans ((if_neg h4_1).trans (if_neg h6_6))]
       first
       | (rw [decide_eq_true (hk.2 ⟨of_decide_eq_true h14_9, by rw [← hxi]; exact h16_4⟩)]; (rw [← hxi]; refine C9 [b] (A0 (A3 rfl (by exact Q0) j2 kb rfl) (A0 rfl A2)) ?_; exact (SnapL.cons _ _ _ _ (SnapC.agg (.cons _ _ _ _ (.bool _) (.cons _ _ _ _ (.int _ _) (.cons _ _ _ _ (.int _ _) (.cons _ _ _ _ (.int _ _) (.cons _ _ _ _ (.int _ _) (.cons _ _ _ _ (.str _) (.cons _ _ _ _ (.weak _ _ (B5 (b := ⟨(rgs p i).map Rg.V, 3, 273⟩) ((rgs p i).map Rg.T) (List.mem_singleton.2 rfl) (by exact Q0) (I4 _).symm (by rw [List.length_map]; exact hrl.symm))) .nil)))))))) (SnapL.cons _ _ _ _ (.one _ _ (.bool _)) SnapL.nil))))
       | (rw [decide_eq_false (fun e => h16_4 (by rw [hxi]; exact (hk.1 e).2))]; (rw [← hxi]; refine C9 [b] (A0 (A3 rfl (by exact Q0) j2 kb rfl) (A0 rfl A2)) ?_; exact (SnapL.cons _ _ _ _ (SnapC.agg (.cons _ _ _ _ (.bool _) (.cons _ _ _ _ (.int _ _) (.cons _ _ _ _ (.int _ _) (.cons _ _ _ _ (.int _ _) (.cons _ _ _ _ (.int _ _) (.cons _ _ _ _ (.str _) (.cons _ _ _ _ (.weak _ _ (B5 (b := ⟨(rgs p i).map Rg.V, 3, 273⟩) ((rgs p i).map Rg.T) (List.mem_singleton.2 rfl) (by exact Q0) (I4 _).symm (by rw [List.length_map]; exact hrl.symm))) .nil)))))))) (SnapL.cons _ _ _ _ (.one _ _ (.bool _)) SnapL.nil))))
       | (rw [decide_eq_false (fun e => absurd (hk.1 e).1 (of_decide_eq_false h14_9))]; (rw [← hxi]; refine C9 [b] (A0 (A3 rfl (by exact Q0) j2 kb rfl) (A0 rfl A2)) ?_; exact (SnapL.cons _ _ _ _ (SnapC.agg (.cons _ _ _ _ (.bool _) (.cons _ _ _ _ (.int _ _) (.cons _ _ _ _ (.int _ _) (.cons _ _ _ _ (.int _ _) (.cons _ _ _ _ (.int _ _) (.cons _ _ _ _ (.str _) (.cons _ _ _ _ (.weak _ _ (B5 (b := ⟨(rgs p i).map Rg.V, 3, 273⟩) ((rgs p i).map Rg.T) (List.mem_singleton.2 rfl) (by exact Q0) (I4 _).symm (by rw [List.length_map]; exact hrl.symm))) .nil)))))))) (SnapL.cons _ _ _ _ (.one _ _ (.bool _)) SnapL.nil))))
      ·(apply est (u := .agg [.bool _, .int _ _, .int _ _, .int _ _, .int _ _, .str _, _]) j3; exact Q0; exact Q2; exact j4; exact kb; rfl)
       refine L5 ?_
       have hxi : (⟨false, rqR (rbQ p), rgs p i⟩ : Bt) = rbL p := by unfold rbL; rw [← hie]
       have hk := rb_ok h1_1 h4_1 h6_6
       rw [show rbX p = rbL p from (if_neg h1_1).trans ((if_neg h4_1).trans (if_neg h6_6))]
       first
       | (rw [decide_eq_true (hk.2 ⟨of_decide_eq_true h14_9, by rw [← hxi]; exact h16_4⟩)]; (rw [← hxi]; refine C9 [b] (A0 (A3 rfl (by exact Q0) j2 kb rfl) (A0 rfl A2)) ?_; exact (SnapL.cons _ _ _ _ (SnapC.agg (.cons _ _ _ _ (.bool _) (.cons _ _ _ _ (.int _ _) (.cons _ _ _ _ (.int _ _) (.cons _ _ _ _ (.int _ _) (.cons _ _ _ _ (.int _ _) (.cons _ _ _ _ (.str _) (.cons _ _ _ _ (.weak _ _ (B5 (b := ⟨(rgs p i).map Rg.V, 3, 273⟩) ((rgs p i).map Rg.T) (List.mem_singleton.2 rfl) (by exact Q0) (I4 _).symm (by rw [List.length_map]; exact hrl.symm))) .nil)))))))) (SnapL.cons _ _ _ _ (.one _ _ (.bool _)) SnapL.nil))))
       | (rw [decide_eq_false (fun e => h16_4 (by rw [hxi]; exact (hk.1 e).2))]; (rw [← hxi]; refine C9 [b] (A0 (A3 rfl (by exact Q0) j2 kb rfl) (A0 rfl A2)) ?_; exact (SnapL.cons _ _ _ _ (SnapC.agg (.cons _ _ _ _ (.bool _) (.cons _ _ _ _ (.int _ _) (.cons _ _ _ _ (.int _ _) (.cons _ _ _ _ (.int _ _) (.cons _ _ _ _ (.int _ _) (.cons _ _ _ _ (.str _) (.cons _ _ _ _ (.weak _ _ (B5 (b := ⟨(rgs p i).map Rg.V, 3, 273⟩) ((rgs p i).map Rg.T) (List.mem_singleton.2 rfl) (by exact Q0) (I4 _).symm (by rw [List.length_map]; exact hrl.symm))) .nil)))))))) (SnapL.cons _ _ _ _ (.one _ _ (.bool _)) SnapL.nil))))
       | (rw [decide_eq_false (fun e => absurd (hk.1 e).1 (of_decide_eq_false h14_9))]; (rw [← hxi]; refine C9 [b] (A0 (A3 rfl (by exact Q0) j2 kb rfl) (A0 rfl A2)) ?_; exact (SnapL.cons _ _ _ _ (SnapC.agg (.cons _ _ _ _ (.bool _) (.cons _ _ _ _ (.int _ _) (.cons _ _ _ _ (.int _ _) (.cons _ _ _ _ (.int _ _) (.cons _ _ _ _ (.int _ _) (.cons _ _ _ _ (.str _) (.cons _ _ _ _ (.weak _ _ (B5 (b := ⟨(rgs p i).map Rg.V, 3, 273⟩) ((rgs p i).map Rg.T) (List.mem_singleton.2 rfl) (by exact Q0) (I4 _).symm (by rw [List.length_map]; exact hrl.symm))) .nil)))))))) (SnapL.cons _ _ _ _ (.one _ _ (.bool _)) SnapL.nil))))
     ·(apply est (u := .agg [.int _ _, .int _ _, .int _ _, .int _ _, .str _]) j3; exact Q0; exact Q2; exact j4; exact kb; rfl)
      (apply C3 (vs := [.int _ _, .int _ _, .int _ _, .int _ _, .str _]) j2; exact Q0; exact Q2; rfl; exact kb; rfl)
      (apply est (u := .agg [.int _ _, .int _ _, .int _ _, .int _ _, .str _]) j3; exact Q0; exact Q2; exact j4; exact kb; rfl)
      (apply C3 (vs := [.bool _, .int _ _, .int _ _, .int _ _, .int _ _, .str _, _]) j2; exact Q0; exact Q2; rfl; exact kb; rfl)
      (apply est (u := .agg [.bool _, .int _ _, .int _ _, .int _ _, .int _ _, .str _, _]) j3; exact Q0; exact Q2; exact j4; exact kb; rfl)
      refine L5 ?_
      have hxi : (⟨false, rqR (rbQ p), rgs p i⟩ : Bt) = rbL p := by unfold rbL; rw [← hie]
      have hk := rb_ok h1_1 h4_1 h6_6
      rw [show rbX p = rbL p from (if_neg h1_1).trans ((if_neg h4_1).trans (if_neg h6_6))]
      first
      | (rw [decide_eq_true (hk.2 ⟨of_decide_eq_true h14_9, by rw [← hxi]; exact h16_4⟩)]; (rw [← hxi]; refine C9 [b] (A0 (A3 rfl (by exact Q0) j2 kb rfl) (A0 rfl A2)) ?_; exact (SnapL.cons _ _ _ _ (SnapC.agg (.cons _ _ _ _ (.bool _) (.cons _ _ _ _ (.int _ _) (.cons _ _ _ _ (.int _ _) (.cons _ _ _ _ (.int _ _) (.cons _ _ _ _ (.int _ _) (.cons _ _ _ _ (.str _) (.cons _ _ _ _ (.weak _ _ (B5 (b := ⟨(rgs p i).map Rg.V, 3, 273⟩) ((rgs p i).map Rg.T) (List.mem_singleton.2 rfl) (by exact Q0) (I4 _).symm (by rw [List.length_map]; exact hrl.symm))) .nil)))))))) (SnapL.cons _ _ _ _ (.one _ _ (.bool _)) SnapL.nil))))
      | (rw [decide_eq_false (fun e => h16_4 (by rw [hxi]; exact (hk.1 e).2))]; (rw [← hxi]; refine C9 [b] (A0 (A3 rfl (by exact Q0) j2 kb rfl) (A0 rfl A2)) ?_; exact (SnapL.cons _ _ _ _ (SnapC.agg (.cons _ _ _ _ (.bool _) (.cons _ _ _ _ (.int _ _) (.cons _ _ _ _ (.int _ _) (.cons _ _ _ _ (.int _ _) (.cons _ _ _ _ (.int _ _) (.cons _ _ _ _ (.str _) (.cons _ _ _ _ (.weak _ _ (B5 (b := ⟨(rgs p i).map Rg.V, 3, 273⟩) ((rgs p i).map Rg.T) (List.mem_singleton.2 rfl) (by exact Q0) (I4 _).symm (by rw [List.length_map]; exact hrl.symm))) .nil)))))))) (SnapL.cons _ _ _ _ (.one _ _ (.bool _)) SnapL.nil))))
      | (rw [decide_eq_false (fun e => absurd (hk.1 e).1 (of_decide_eq_false h14_9))]; (rw [← hxi]; refine C9 [b] (A0 (A3 rfl (by exact Q0) j2 kb rfl) (A0 rfl A2)) ?_; exact (SnapL.cons _ _ _ _ (SnapC.agg (.cons _ _ _ _ (.bool _) (.cons _ _ _ _ (.int _ _) (.cons _ _ _ _ (.int _ _) (.cons _ _ _ _ (.int _ _) (.cons _ _ _ _ (.int _ _) (.cons _ _ _ _ (.str _) (.cons _ _ _ _ (.weak _ _ (B5 (b := ⟨(rgs p i).map Rg.V, 3, 273⟩) ((rgs p i).map Rg.T) (List.mem_singleton.2 rfl) (by exact Q0) (I4 _).symm (by rw [List.length_map]; exact hrl.symm))) .nil)))))))) (SnapL.cons _ _ _ _ (.one _ _ (.bool _)) SnapL.nil))))
open Go.V
set_option linter.unusedVariables false
set_option linter.unusedSimpArgs false
set_option maxRecDepth 20000
set_option maxHeartbeats 4000000
theorem r74 (n : Int) (hn : nodes n) (p : ByteArray) (hp : p.size ≤ 1000000) : Pure En 74 [.one (.int .i64 n), .one (.str p)] [.one (.bool (decide (bodyOK rdM n p)))] := by
 refine Pure.of_ev (st := []) Tryz.func74 rfl kb ?_
 refine C1 (r151 p hp) rfl rfl rfl ?_
 refine brB ?_ ?_ <;> intro h1_4
 ·(apply est (u := .agg [.bool _, .int _ _, .int _ _, .int _ _, .int _ _, .str _, _]) j3; exact Q0; exact Q2; exact j4; exact kb; rfl)
  refine A1 ?_ (by exact Q0) (by exact Q2)
  refine brB ?_ ?_ <;> intro h4_1
  ·have hb := of_decide_eq_true h1_4
   exact B7 rfl ⟨hb, .inl (by rw [← Y4 hb]; exact h4_1)⟩
  ·refine A1 ?_ (by exact Q0) (by exact Q2)
   refine G2 (r152 n hn (rbX p).rs false) rfl j2 ?_
   rintro tt h6_3
   try dsimp only at h6_3
   refine brB ?_ ?_ <;> intro h6_6
   ·have hb := of_decide_eq_true h1_4
    first
    | exact B7 rfl ⟨hb, .inr (by rw [← Y4 hb]; exact of_decide_eq_true h6_6)⟩
    | exact A7 rfl fun e => e.2.elim (fun q => by rw [← Y4 hb, h4_1] at q; cases q) (fun q => (of_decide_eq_false h6_6) (by rw [Y4 hb]; exact q))
   ·have hb := of_decide_eq_true h1_4
    first
    | exact B7 rfl ⟨hb, .inr (by rw [← Y4 hb]; exact of_decide_eq_true h6_6)⟩
    | exact A7 rfl fun e => e.2.elim (fun q => by rw [← Y4 hb, h4_1] at q; cases q) (fun q => (of_decide_eq_false h6_6) (by rw [Y4 hb]; exact q))
 ·(apply est (u := .agg [.bool _, .int _ _, .int _ _, .int _ _, .int _ _, .str _, _]) j3; exact Q0; exact Q2; exact j4; exact kb; rfl)
  exact A7 rfl fun e => (of_decide_eq_false h1_4) e.1
open Go.V
set_option linter.unusedVariables false
set_option linter.unusedSimpArgs false
set_option maxRecDepth 20000
set_option maxHeartbeats 4000000
noncomputable instance dcCk (n : Int) (c : Ct) : Decidable (ctOK mk bare rdM dgB n c) := Classical.propDecidable _
theorem r76 (n : Int) (hn : nodes n) (c : Ct) (b : Bool) : Pure En 76 [.one (.int .i64 n), .agg (c.T b)] [.one (.bool (decide (ctOK mk bare rdM dgB n c)))] := by
 have hl : (c.ps.map Msg.T).length = c.ps.length := List.length_map ..
 have hq := P3 hn
 refine Pure.of_ev (st := []) Tryz.func76 rfl kb ?_
 refine A1 ?_ (by exact Q0) (by exact Q2)
 refine C1 (r59 n hn) rfl rfl rfl ?_
 refine br ?_ ?_ <;> intro h1_5
 ·refine A7 rfl ?_
  rintro ⟨q1, q2, q3, _⟩
  first
  | omega
  | exact h1_16 q3
 ·refine A1 ?_ (by exact Q0) (by exact Q2)
  refine br ?_ ?_ <;> intro h1_10
  ·refine A7 rfl ?_
   rintro ⟨q1, q2, q3, _⟩
   first
   | omega
   | exact h1_16 q3
  ·refine A1 ?_ (by exact Q0) (by exact Q2)
   refine B0 (r74 n hn c.bd (by omega)) rfl j2 ?_ ?_ <;> intro h1_16
   ·refine B3 (fun (a : Nat × Nat) => [.int .i64 n, .unk, .unk, .ptr 0 0 0, .unk, .int .i64 a.1]) (fun (a : Nat × Nat) => hp [(0, ⟨[[.str c.bd, .sl false b (c.ps.map Msg.T)]], 2, 44⟩)]) (fun (a : Nat × Nat) => a.2) (fun (a : Nat × Nat) => a.1 ≤ c.ps.length ∧ 1 ≤ a.2 ∧ ∀ j, j < a.1 → pOK mk bare dgB n c j) (fun (a : Nat × Nat) => c.ps.length - a.1) (0, 1) ?_ ?_ ?_ ?_ ?_
    ·exact ⟨Nat.zero_le _, Nat.le_refl _, E6⟩
    ·(repeat first | exact LE.nil _ | refine LE.unk _ _ ?_ | refine LE.eq _ _ _ rfl ?_)
    ·(repeat first | exact A5 | (refine A4 ?_ ?_; exact H8))
    ·exact Nat.le_refl _
    intro ⟨i, m⟩ hI ih
    obtain ⟨q0, q1, q2⟩ := hI
    dsimp only at q0 q1 q2 ⊢
    refine A6 (st := []) ?_
    refine A1 ?_ (by exact Q0) (by exact Q2)
    refine br ?_ ?_ <;> intro h4_4
    ·refine A1 ?_ (by exact Q0) (by exact Q2)
     (refine B9 (C5 (by first | rfl | assumption | exact Q37) rfl ?_))
     (apply est (u := .agg [.int _ _, .int _ _, .int _ _, .int _ _, .str _, .str _, .str _]) j3; exact Q0; exact Q2; exact j4; exact kb; rfl)
     refine A1 ?_ (by exact Q0) (by exact Q2)
     refine br ?_ ?_ <;> intro h7_2
     ·refine A7 rfl (fun e => ?_)
      obtain ⟨e1, e2, e3, e4, e5, e6⟩ := e.2.2.2 i (by omega)
      first
      | omega
      | exact h7_6 e2
      | exact h7_15 e3
      | (have := e6 (by omega); omega)
     ·(apply C3 (vs := [.int _ _, .int _ _, .int _ _, .int _ _, .str _, .str _, .str _]) j2; exact Q0; exact Q2; rfl; exact kb; rfl)
      refine B0 (r93 n (c.ps.getD i Msg0)) rfl j2 ?_ ?_ <;> intro h7_6
      ·refine A1 ?_ (by exact Q0) (by exact Q2)
       refine A1 ?_ (by exact Q0) (by exact Q2)
       refine C1 (r153 c.bd (by omega)) rfl rfl rfl ?_
       refine br ?_ ?_ <;> intro h7_15
       ·refine A7 rfl (fun e => ?_)
        obtain ⟨e1, e2, e3, e4, e5, e6⟩ := e.2.2.2 i (by omega)
        first
        | omega
        | exact h7_6 e2
        | exact h7_15 e3
        | (have := e6 (by omega); omega)
       ·refine A1 ?_ (by exact Q0) (by exact Q2)
        refine A1 ?_ (by exact Q0) (by exact Q2)
        (refine B9 (C5 (by first | rfl | assumption | exact Q37) rfl ?_))
        refine br ?_ ?_ <;> intro h7_25
        ·refine A7 rfl (fun e => ?_)
         obtain ⟨e1, e2, e3, e4, e5, e6⟩ := e.2.2.2 i (by omega)
         first
         | omega
         | exact h7_6 e2
         | exact h7_15 e3
         | (have := e6 (by omega); omega)
        ·refine A1 ?_ (by exact Q0) (by exact Q2)
         refine A1 ?_ (by exact Q0) (by exact Q2)
         (refine B9 (C5 (by first | rfl | assumption | exact Q37) rfl ?_))
         refine br ?_ ?_ <;> intro h7_35
         ·refine A7 rfl (fun e => ?_)
          obtain ⟨e1, e2, e3, e4, e5, e6⟩ := e.2.2.2 i (by omega)
          first
          | omega
          | exact h7_6 e2
          | exact h7_15 e3
          | (have := e6 (by omega); omega)
         ·refine br ?_ ?_ <;> intro h7_39
          ·refine A1 ?_ (by exact Q0) (by exact Q2)
           refine C0 ?_
           (refine B9 (C5 (by first | rfl | assumption | exact Q37) rfl ?_))
           refine A1 ?_ (by exact Q0) (by exact Q2)
           refine br ?_ ?_ <;> intro h7_50
           ·refine A7 rfl (fun e => ?_)
            obtain ⟨e1, e2, e3, e4, e5, e6⟩ := e.2.2.2 i (by omega)
            first
            | omega
            | exact h7_6 e2
            | exact h7_15 e3
            | (have := e6 (by omega); omega)
           ·refine C0 ?_
            exact C6 (ih (i + 1, m + 1) ⟨by dsimp only; omega, by dsimp only; omega, C8 q2 ⟨by omega, h7_6, Classical.not_not.1 h7_15, by omega, by omega, fun _ => by omega⟩⟩ (by dsimp only; omega)) (by (repeat first | exact LE.nil _ | refine LE.unk _ _ ?_ | refine LE.eq _ _ _ rfl ?_)) (by (repeat first | exact A5 | (refine A4 ?_ ?_; exact H8))) (Nat.le_refl _)
          ·refine C0 ?_
           exact C6 (ih (i + 1, m + 1) ⟨by dsimp only; omega, by dsimp only; omega, C8 q2 ⟨by omega, h7_6, Classical.not_not.1 h7_15, by omega, by omega, fun _ => by omega⟩⟩ (by dsimp only; omega)) (by (repeat first | exact LE.nil _ | refine LE.unk _ _ ?_ | refine LE.eq _ _ _ rfl ?_)) (by (repeat first | exact A5 | (refine A4 ?_ ?_; exact H8))) (Nat.le_refl _)
      ·refine A7 rfl (fun e => ?_)
       obtain ⟨e1, e2, e3, e4, e5, e6⟩ := e.2.2.2 i (by omega)
       first
       | omega
       | exact h7_6 e2
       | exact h7_15 e3
       | (have := e6 (by omega); omega)
    ·exact B7 rfl ⟨by omega, by omega, h1_16, fun j hj => q2 j (by omega)⟩
   ·refine A7 rfl ?_
    rintro ⟨q1, q2, q3, _⟩
    first
    | omega
    | exact h1_16 q3
end Go.Proofs.YteifdelnahccjaaGreatDoor
