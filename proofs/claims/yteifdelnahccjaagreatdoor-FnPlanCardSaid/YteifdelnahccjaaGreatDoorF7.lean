import Derived.Shelf.SlIterI.Nil
import Derived.Shelf.SortM.Plain
import Derived.Shelf.SortM.SortNone
import Derived.Ground.GgzProg
import Derived.Ground.SlgmProg
import Derived.Test.YteifdelnahccjaaGreatDoorProg
import Derived.RangeFuncBox
import Derived.RangeFuncLeaves
import Derived.Shelf.Abstract
import Derived.WalkKit
import Derived.OwnWalkIn
import Derived.TacticsInMore
import Derived.LoopNIn
import Derived.LoopIn
import Derived.Test.YteifdelnahccjaaGreatDoorF6
namespace Go.Proofs.YteifdelnahccjaaGreatDoor
open Go.V
set_option linter.unusedVariables false
set_option linter.unusedSimpArgs false
set_option maxRecDepth 20000
set_option maxHeartbeats 4000000
def tT (s : ByteArray) : List V.T := [.str s]
def tV (s : ByteArray) : List V := [.str s]
theorem rowsT (L : List ByteArray) : rowsV (L.map tT) = L.map tV := by unfold rowsV; rw [List.map_map]; rfl
theorem getV0 {α : Type} (f : α → List V) (d : α) {L : List α} {k : Nat} (h : k < L.length) : (L.map f)[0 + ((k : Int)).toNat]? = some (f (L.getD k d)) := by
 show (L.map f)[0 + k]? = _; rw [Nat.zero_add]; simp [h]
def lix : List ByteArray → Nat → Int
 | [], _ => -1
 | s :: r, k => if 20000 < s.size then k else lix r (k + 1)
theorem lix_at {L : List ByteArray} {i : Nat} (h : i < L.length) : lix (L.drop i) i = if 20000 < (L.getD i ⟨#[]⟩).size then (i : Int) else lix (L.drop (i + 1)) (i + 1) := by
 rw [List.drop_eq_getElem_cons h, show L.getD i ⟨#[]⟩ = L[i] by simp [h]]; rfl
theorem lix_end {L : List ByteArray} {i : Nat} (h : L.length ≤ i) : lix (L.drop i) i = -1 := by rw [List.drop_eq_nil_of_le h]; rfl
theorem Y6 : ∀ (L : List ByteArray) (k : Nat), 0 ≤ lix L k ↔ ¬ short L
 | [], k => ⟨fun h => by have q : (0 : Int) ≤ -1 := h; omega, fun h => absurd (fun s hs => (by cases hs)) h⟩
 | s :: r, k => by
  unfold lix
  by_cases c : 20000 < s.size
  ·rw [if_pos c]
   exact ⟨fun _ q => by have := q s (List.mem_cons_self ..); omega, fun _ => by omega⟩
  ·rw [if_neg c, Y6 r (k + 1)]
   exact ⟨fun h q => h (fun x hx => q x (List.mem_cons_of_mem _ hx)), fun h q => h (fun x hx => by
    rcases List.mem_cons.1 hx with e | e
    ·rw [e]; omega
    ·exact q x e)⟩
def lsI (p : ByteArray) : Nat → Rd
 | 0 => Rd.sk p ⟨0, false⟩ 1
 | i + 1 => (lsI p i).skz p 2
def lsX (p : ByteArray) : Nat → List ByteArray
 | 0 => []
 | i + 1 => lsX p i ++ [(lsI p i).tkz p 2]
theorem lsX_len (p : ByteArray) : ∀ i, (lsX p i).length = i
 | 0 => rfl
 | i + 1 => by show (lsX p i ++ [_]).length = _; rw [List.length_append, lsX_len p i]; rfl
theorem Y7 (p : ByteArray) : ∀ i, (lsI p i).o ≤ p.size
 | 0 => Rd.sk_le (Nat.zero_le _) (by omega)
 | i + 1 => Rd.skz_le (Y7 p i)
theorem lsI_bad {p : ByteArray} (h : p.size = 0) : ∀ i, (lsI p i).b = true
 | 0 => Rd.sk_noI (by show (p.size : Int) < 0 + 1; omega)
 | i + 1 => Rd.skz_bad (lsI_bad h i)
theorem ls_no {p : ByteArray} (h1 : 1 ≤ p.size) : ∀ {i : Nat}, (∀ l o, sg p i = some (l, o) → lsI p i = ⟨o, false⟩ ∧ lsX p i = l) ∧ (sg p i = none → (lsI p i).b = true)
 | 0 => ⟨fun l o h => (by cases h; exact ⟨bS1 h1, rfl⟩), fun h => (by cases h)⟩
 | i + 1 => by
  have ih := ls_no h1 (i := i)
  match e : sg p i with
  | none => exact ⟨fun l o h => (by rw [sg_mono e] at h; cases h), fun _ => Rd.skz_bad (ih.2 e)⟩
  | some (l, o) =>
   obtain ⟨e1, e2⟩ := ih.1 l o e
   have ol := (sg_len e).2.1 h1
   by_cases c : o + 2 ≤ p.size ∧ o + 2 + (num p o 2).toNat ≤ p.size
   ·refine ⟨fun l2 o2 h => ?_, fun h => (by rw [T0 e c] at h; cases h)⟩
    rw [T0 e c] at h
    cases h
    refine ⟨?_, ?_⟩
    ·show Rd.skz p (lsI p i) 2 = _
     rw [e1, X5 c.1 c.2]
    ·show lsX p i ++ [Rd.tkz p (lsI p i) 2] = _
     rw [e1, e2, tkz_ok c.1 c.2]
   ·refine ⟨fun l2 o2 h => (by rw [sg_no e c] at h; cases h), fun _ => ?_⟩
    show (Rd.skz p (lsI p i) 2).b = true
    rw [e1]; exact skz_no ol c
theorem lsC_yes {p : ByteArray} {k : Nat} (hk : k = (Rd.nm p ⟨0, false⟩ 1).toNat) (hd : (lsI p k).done p) (h100 : k ≤ 100) (hs : short (lsX p k)) : lsC p = some (lsX p k) := by
 rcases Nat.eq_zero_or_pos p.size with z | z
 ·have := hd.1; rw [lsI_bad z] at this; cases this
 ·rw [bN1 z] at hk
  have n0 := K3 p 0 1
  match e : sg p k with
  | none => have := hd.1; rw [(ls_no z).2 e] at this; cases this
  | some (l, o) =>
   obtain ⟨e1, e2⟩ := (ls_no z).1 l o e
   rw [e1] at hd
   have ho : o = p.size := hd.2
   unfold lsC
   rw [if_pos ⟨z, by omega⟩, ← hk, e]
   show (if o = p.size ∧ short l then some l else none) = _
   rw [if_pos ⟨ho, by rw [← e2]; exact hs⟩, e2]
theorem U2 {p : ByteArray} {k : Nat} (hk : k = (Rd.nm p ⟨0, false⟩ 1).toNat) (h : ¬ (lsI p k).done p ∨ 100 < k ∨ ¬ short (lsX p k)) : lsC p = none := by
 unfold lsC
 split
 ·next c =>
  rw [bN1 c.1] at hk
  rw [← hk]
  match e : sg p k with
  | none => rfl
  | some (l, o) =>
   obtain ⟨e1, e2⟩ := (ls_no c.1).1 l o e
   show (if o = p.size ∧ short l then some l else none) = _
   rw [if_neg]
   rintro ⟨q1, q2⟩
   rcases h with h | h | h
   ·rw [e1] at h; exact h ⟨rfl, q1⟩
   ·omega
   ·rw [e2] at h; exact h q2
 ·rfl
def lsO (p : ByteArray) : List ByteArray := match lsC p with | some l => l | none => []
structure LS where
 i : Nat
 o : V
 b : Nat
 m : Nat
 g : Heap
structure LI (p : ByteArray) (k : Nat) (a : LS) : Prop where
 il : a.i ≤ k
 g0 : a.g 0 = some (rdB p (lsI p a.i))
 out : LsOK tV 1 9 1 (lsX p a.i) a.o a.b a.m a.g
 mm : 1 ≤ a.m
theorem s217 (s : ByteArray) : Pure En 217 [.one (.str s)] [.one (.bool (decide (20000 < s.size)))] := by
 refine Pure.of_ev (st := []) Tryz.func217 rfl kb ?_
 refine br ?_ ?_ <;> intro h1_2
 ·first | (refine B4 rfl ?_; omega) | (refine B3 rfl ?_; omega)
 ·first | (refine B4 rfl ?_; omega) | (refine B3 rfl ?_; omega)
theorem o238 (L : List ByteArray) (hL : L.length ≤ 1048576) {b : Nat} {h : Heap} {n : Nat} (hb : h b = some ⟨L.map tV, 1, 9⟩) (hk : b < n) : V.Open En 238 [.view b 0 L.length, .clo 217 []] h n (.int .i64 (lix L 0)) [] n := by
 have hl : (L.map tV).length = L.length := List.length_map ..
 refine V.Open.of_ev (st := []) Tryz.func238 rfl kb ?_
 refine A9 (fun (i : Nat) => [.view b 0 L.length, .clo 217 [], .unk, .unk, .unk, .unk, .unk, .int .i64 L.length, .int .i64 i]) (fun (i : Nat) => h) (fun (i : Nat) => n) (fun (i : Nat) => i ≤ L.length ∧ lix (L.drop i) i = lix L 0) (fun (i : Nat) => L.length - i) 0 ?_ ?_ ?_ ?_ ?_
 ·exact ⟨Nat.zero_le _, rfl⟩
 ·(repeat first | exact LE.nil _ | refine LE.unk _ _ ?_ | refine LE.eq _ _ _ rfl ?_)
 ·exact LessH.refl _
 ·exact Nat.le_refl _
 intro i hI ih
 obtain ⟨q0, q1⟩ := hI
 refine A7 (st := []) ?_
 refine br ?_ ?_ <;> intro h2_0
 ·(refine mem (by exact Q0) ⟨rfl, C2 ?_⟩)
  refine A4 ?_ (by exact Q0) (by (first | rfl | assumption | exact getV0 tV ⟨#[]⟩ (k := i) (by omega)))
  refine B6 (s217 (L.getD i ⟨#[]⟩)) rfl j2 ?_ ?_ <;> intro h4_5
  ·rw [show lix L 0 = (i : Int) by rw [← q1, lix_at (by omega)]; exact if_pos h4_5]
   exact G9 rfl rfl (fun _ _ _ e => e) (Nat.le_refl _)
  ·refine B7 ?_
   have e := lix_at (L := L) (i := i) (by omega)
   rw [if_neg h4_5] at e
   have e1 := e.symm.trans q1
   exact C6 (ih (i + 1) ⟨by omega, e1⟩ (by omega)) (by (repeat first | exact LE.nil _ | refine LE.unk _ _ ?_ | refine LE.eq _ _ _ rfl ?_)) (LessH.refl _) (Nat.le_refl _)
 ·rw [show lix L 0 = -1 by rw [← q1, lix_end (by omega)]]
  exact G9 rfl rfl (fun _ _ _ e => e) (Nat.le_refl _)
theorem o238n {h : Heap} {n : Nat} : V.Open En 238 [.nsl, .clo 217 []] h n (.int .i64 (-1)) [] n := by
 refine V.Open.of_ev (st := []) Tryz.func238 rfl kb ?_
 refine A7 (st := []) ?_
 refine br (fun h => absurd h ((by omega))) ?_
 intro h2_0
 exact G9 rfl rfl (fun _ _ _ e => e) (Nat.le_refl _)
theorem o181 (L : List ByteArray) (hL : L.length ≤ 1048576) {b : Nat} {h : Heap} {n : Nat} (hb : h b = some ⟨L.map tV, 1, 9⟩) (hk : b < n) : V.Open En 181 [.view b 0 L.length, .clo 217 []] h n (.bool (decide (¬ short L))) [] n := by
 refine V.Open.of_ev (st := []) Tryz.func181 rfl kb ?_
 refine N3 (o238 L hL hb hk) rfl rfl rfl ?_
 refine br ?_ ?_ <;> intro h1_3
 ·first
  | (rw [decide_eq_true ((Y6 L 0).1 (by omega))]; exact G9 rfl rfl (fun _ _ _ e => e) (Nat.le_refl _))
  | (rw [decide_eq_false (fun q => by have := (Y6 L 0).2 q; omega)]; exact G9 rfl rfl (fun _ _ _ e => e) (Nat.le_refl _))
 ·first
  | (rw [decide_eq_true ((Y6 L 0).1 (by omega))]; exact G9 rfl rfl (fun _ _ _ e => e) (Nat.le_refl _))
  | (rw [decide_eq_false (fun q => by have := (Y6 L 0).2 q; omega)]; exact G9 rfl rfl (fun _ _ _ e => e) (Nat.le_refl _))
theorem o181n {h : Heap} {n : Nat} : V.Open En 181 [.nsl, .clo 217 []] h n (.bool false) [] n := by
 refine V.Open.of_ev (st := []) Tryz.func181 rfl kb ?_
 refine N3 o238n rfl rfl rfl ?_
 refine br ?_ ?_ <;> intro h1_3
 ·first | exact G9 rfl rfl (fun _ _ _ e => e) (Nat.le_refl _) | (exfalso; omega)
 ·first | exact G9 rfl rfl (fun _ _ _ e => e) (Nat.le_refl _) | (exfalso; omega)
theorem s147 (p : ByteArray) : Pure En 147 [.one (.str p)] [.one (.sl false ((lsO p).map tT)), .one (.bool (lsC p).isSome)] := by
 have hnl := bNle p
 refine Pure.of_ev (st := [3, 6]) Tryz.func147 rfl kb ?_
 refine E1 fun G hG => ?_
 have hrd : G 0 = some (rdB p ⟨0, false⟩) := by rw [hG]; unfold rdB; dsimp only; rw [ext_all]; exact Q0
 refine N3 (O1 p ⟨0, false⟩ (Nat.zero_le _) 1 (by omega) ?_ hrd) rfl rfl rfl ?_
 ·exact F9
 refine U7 fun g0 hg0 => ?_
 refine A9 (fun (a : LS) => [.unk, .unk, .unk, .unk, .ptr 0 0 0, a.o, .unk, .unk, .unk, .unk, .int .i64 (Rd.nm p ⟨0, false⟩ 1), .int .i64 a.i]) (fun (a : LS) => a.g) (fun (a : LS) => a.m) (fun (a : LS) => LI p (Rd.nm p ⟨0, false⟩ 1).toNat a) (fun (a : LS) => (Rd.nm p ⟨0, false⟩ 1).toNat - a.i) ⟨0, .nsl, 0, 1 + 1, g0⟩ ?_ ?_ ?_ ?_ ?_
 ·refine ⟨Nat.zero_le _, ?_, .inl ⟨rfl, rfl⟩, by dsimp only; omega⟩
  dsimp only; rw [hg0]; exact Q0
 ·(repeat first | exact LE.nil _ | refine LE.unk _ _ ?_ | refine LE.eq _ _ _ rfl ?_)
 ·exact LessH.refl _
 ·exact Nat.le_refl _
 intro ⟨i, o, b, m, g⟩ hI ih
 have q0 := hI.il
 have hg0 := hI.g0
 have q4 := hI.mm
 dsimp only at q0 hg0 q4 ⊢
 have hrl := lsX_len p i
 rcases hI.out with ⟨e0, e1⟩ | ⟨e1, hbO2, hbO⟩
 all_goals dsimp only at e1
 ·skip
  obtain rfl : i = 0 := by rw [e0] at hrl; exact hrl.symm
  subst e1
  refine A7 (st := [3, 6]) ?_
  refine br ?_ ?_ <;> intro h4_0
  ·refine N3 (o215 p (lsI p 0) (Y7 p 0) 2 (by omega) ?_ ?_) rfl rfl rfl ?_
   ·exact F9
   ·exact F9
   refine D3 (es := [[.str _]]) j4 kz kb rfl rfl ?_
   (apply ean (s' := 16) (es := [[.str _]]) rfl j3 kz; exact H5; exact Q6; exact Q4; exact Q4; exact Q4)
   refine E1 fun G hG => ?_
   refine B7 ?_
   refine C6 (ih ⟨0 + 1, .view (m + 1 + 1) 0 1, m + 1 + 1, m + 1 + 1 + 1, G⟩ ⟨by dsimp only; omega, ?_, .inr ⟨?_, ?_, by dsimp only; omega, by dsimp only; omega⟩, by dsimp only; omega⟩ (by dsimp only; omega)) (by (repeat first | exact LE.nil _ | refine LE.unk _ _ ?_ | refine LE.eq _ _ _ rfl ?_)) (LessH.refl _) (Nat.le_refl _)
   ·dsimp only; rw [hG]; exact Q0
   ·show V.view _ 0 _ = V.view _ 0 (lsX p 0 ++ [_]).length; rw [List.length_append]; rfl
   ·dsimp only; rw [hG]; show _ = some (Blk.mk ((lsX p 0 ++ [_]).map tV) 1 9); rw [List.map_append]; exact Q0
  ·refine eopB (o216 p (lsI p 0) (Y7 p 0) ?_ ?_) rfl j2 ?_ ?_
   ·exact F9
   ·exact F9
   all_goals intro h7_1
   ·refine br ?_ ?_ <;> intro h7_6
    ·have ek : 0 = (Rd.nm p ⟨0, false⟩ 1).toNat := by omega
     have hno : lsC p = none := U2 ek (by
      first
      | exact .inl (of_decide_eq_false h7_1)
      | exact .inl h7_1
      | exact .inr (.inl (by omega))
      | exact .inr (.inr (of_decide_eq_true h7_10)))
     rw [show lsO p = [] by unfold lsO; rw [hno], hno]
     exact C7 [] (A0 rfl (A0 rfl A1)) (SnapL.cons _ _ _ _ (.one _ _ .nslW) (SnapL.cons _ _ _ _ (.one _ _ (.bool _)) SnapL.nil))
    ·refine eopB o181n rfl j2 ?_ ?_
     all_goals intro h7_10
     ·have ek : 0 = (Rd.nm p ⟨0, false⟩ 1).toNat := by omega
      have hno : lsC p = none := U2 ek (by
       first
       | exact .inl (of_decide_eq_false h7_1)
       | exact .inl h7_1
       | exact .inr (.inl (by omega))
       | exact .inr (.inr (of_decide_eq_true h7_10)))
      rw [show lsO p = [] by unfold lsO; rw [hno], hno]
      exact C7 [] (A0 rfl (A0 rfl A1)) (SnapL.cons _ _ _ _ (.one _ _ .nslW) (SnapL.cons _ _ _ _ (.one _ _ (.bool _)) SnapL.nil))
     ·have ek : 0 = (Rd.nm p ⟨0, false⟩ 1).toNat := by omega
      have hyes : lsC p = some (lsX p 0) := lsC_yes ek (by first | exact of_decide_eq_true h7_1 | exact h7_1) (by omega) (fun s hs => by cases hs)
      rw [show lsO p = lsX p 0 by unfold lsO; rw [hyes], hyes]
      refine C7 [] (A0 rfl (A0 rfl A1)) ?_
      exact (SnapL.cons _ _ _ _ (.one _ _ .nslW) (SnapL.cons _ _ _ _ (.one _ _ (.bool _)) SnapL.nil))
   ·have ek : 0 = (Rd.nm p ⟨0, false⟩ 1).toNat := by omega
    have hno : lsC p = none := U2 ek (by
     first
     | exact .inl (of_decide_eq_false h7_1)
     | exact .inl h7_1
     | exact .inr (.inl (by omega))
     | exact .inr (.inr (of_decide_eq_true h7_10)))
    rw [show lsO p = [] by unfold lsO; rw [hno], hno]
    exact C7 [] (A0 rfl (A0 rfl A1)) (SnapL.cons _ _ _ _ (.one _ _ .nslW) (SnapL.cons _ _ _ _ (.one _ _ (.bool _)) SnapL.nil))
 ·skip
  dsimp only at hbO2 hbO
  subst e1
  have hl100 : (lsX p i).length ≤ 1048576 := by omega
  refine A7 (st := [3, 6]) ?_
  refine br ?_ ?_ <;> intro h4_0
  ·refine N3 (o215 p (lsI p i) (Y7 p i) 2 (by omega) ?_ ?_) rfl rfl rfl ?_
   ·exact F9
   ·exact F9
   refine D3 (es := [[.str _]]) j4 kz kb rfl rfl ?_
   (apply eap (s' := 16) (es := [[.str _]]) rfl rfl; exact Q0; exact j2; exact Q29; exact j2; exact kz; exact H5; exact Q6; exact Q4; exact Q4)
   refine E1 fun G hG => ?_
   refine B7 ?_
   refine C6 (ih ⟨i + 1, .view (m + 1 + 1) 0 ((lsX p i).length + 1), m + 1 + 1, m + 1 + 1 + 1, G⟩ ⟨by dsimp only; omega, ?_, .inr ⟨?_, ?_, by dsimp only; omega, by dsimp only; omega⟩, by dsimp only; omega⟩ (by dsimp only; omega)) (by (repeat first | exact LE.nil _ | refine LE.unk _ _ ?_ | refine LE.eq _ _ _ rfl ?_)) (LessH.refl _) (Nat.le_refl _)
   ·dsimp only; rw [hG]; exact Q0
   ·show V.view _ 0 _ = V.view _ 0 (lsX p i ++ [_]).length; rw [List.length_append]; rfl
   ·dsimp only; rw [hG]; show _ = some (Blk.mk ((lsX p i ++ [_]).map tV) 1 9); rw [List.map_append]; exact Q0
  ·refine eopB (o216 p (lsI p i) (Y7 p i) ?_ ?_) rfl j2 ?_ ?_
   ·exact F9
   ·exact F9
   all_goals intro h7_1
   ·refine br ?_ ?_ <;> intro h7_6
    ·have ek : i = (Rd.nm p ⟨0, false⟩ 1).toNat := by omega
     have hno : lsC p = none := U2 ek (by
      first
      | exact .inl (of_decide_eq_false h7_1)
      | exact .inl h7_1
      | exact .inr (.inl (by omega))
      | exact .inr (.inr (of_decide_eq_true h7_10)))
     rw [show lsO p = [] by unfold lsO; rw [hno], hno]
     exact C7 [] (A0 rfl (A0 rfl A1)) (SnapL.cons _ _ _ _ (.one _ _ .nslW) (SnapL.cons _ _ _ _ (.one _ _ (.bool _)) SnapL.nil))
    ·refine eopB (o181 (lsX p i) hl100 hbO2 ?_) rfl j2 ?_ ?_
     ·exact F9
     all_goals intro h7_10
     ·have ek : i = (Rd.nm p ⟨0, false⟩ 1).toNat := by omega
      have hno : lsC p = none := U2 ek (by
       first
       | exact .inl (of_decide_eq_false h7_1)
       | exact .inl h7_1
       | exact .inr (.inl (by omega))
       | exact .inr (.inr (of_decide_eq_true h7_10)))
      rw [show lsO p = [] by unfold lsO; rw [hno], hno]
      exact C7 [] (A0 rfl (A0 rfl A1)) (SnapL.cons _ _ _ _ (.one _ _ .nslW) (SnapL.cons _ _ _ _ (.one _ _ (.bool _)) SnapL.nil))
     ·have ek : i = (Rd.nm p ⟨0, false⟩ 1).toNat := by omega
      have hyes : lsC p = some (lsX p i) := lsC_yes ek (by first | exact of_decide_eq_true h7_1 | exact h7_1) (by omega) (by have q := of_decide_eq_false h7_10; exact Classical.not_not.1 q)
      rw [show lsO p = lsX p i by unfold lsO; rw [hyes], hyes]
      refine C7 [b] (A0 rfl (A0 rfl A1)) ?_
      exact (SnapL.cons _ _ _ _ (.one _ _ (.weak _ _ (A3 (b := ⟨(lsX p i).map tV, 1, 9⟩) ((lsX p i).map tT) (List.mem_singleton.2 rfl) (by exact Q0) (rowsT _).symm (List.length_map ..).symm))) (SnapL.cons _ _ _ _ (.one _ _ (.bool _)) SnapL.nil))
   ·have ek : i = (Rd.nm p ⟨0, false⟩ 1).toNat := by omega
    have hno : lsC p = none := U2 ek (by
     first
     | exact .inl (of_decide_eq_false h7_1)
     | exact .inl h7_1
     | exact .inr (.inl (by omega))
     | exact .inr (.inr (of_decide_eq_true h7_10)))
    rw [show lsO p = [] by unfold lsO; rw [hno], hno]
    exact C7 [] (A0 rfl (A0 rfl A1)) (SnapL.cons _ _ _ _ (.one _ _ .nslW) (SnapL.cons _ _ _ _ (.one _ _ (.bool _)) SnapL.nil))
open Go.V
set_option linter.unusedVariables false
set_option linter.unusedSimpArgs false
set_option maxRecDepth 20000
set_option maxHeartbeats 4000000
theorem B0 {α : Type} (f : α → List V.T) (d : α) {L : List α} {k : Nat} (h : k < L.length) : (L.map f)[k]? = some (f (L.getD k d)) := by simp [h]
abbrev pOf (s : ByteArray) : Prop := mOK s ∧ (msC s).kd = 2
theorem mss_yes : ∀ {r : List ByteArray}, (∀ s ∈ r, pOf s) → mss r = some (r.map msC)
 | [], _ => rfl
 | s :: r, h => by
  have h1 := h s (List.mem_cons_self ..)
  unfold mss
  rw [if_pos ⟨h1.1.1, h1.1.2, h1.2⟩, mss_yes (fun x hx => h x (List.mem_cons_of_mem _ hx))]; rfl
theorem O6 : ∀ {r : List ByteArray} {s : ByteArray}, s ∈ r → ¬ pOf s → mss r = none
 | x :: r, s, hs, h => by
  unfold mss
  rcases List.mem_cons.1 hs with e | e
  ·rw [if_neg (by rw [← e]; exact fun q => h ⟨⟨q.1, q.2.1⟩, q.2.2⟩)]
  ·rw [O6 e h]; split <;> rfl
noncomputable def ctX (p : ByteArray) : Ct := match ctC p with | some c => c | none => Ct0
def csL (r : List ByteArray) : Nat → List Msg
 | 0 => []
 | i + 1 => csL r i ++ [mX (r.getD i ⟨#[]⟩)]
theorem csL_len (r : List ByteArray) : ∀ i, (csL r i).length = i
 | 0 => rfl
 | i + 1 => by show (csL r i ++ [_]).length = _; rw [List.length_append, csL_len r i]; rfl
theorem csL_tk {r : List ByteArray} : ∀ {i : Nat}, i ≤ r.length → (∀ j, j < i → pOf (r.getD j ⟨#[]⟩)) → csL r i = (r.take i).map msC
 | 0, _, _ => rfl
 | i + 1, h, hp => by
  show csL r i ++ [mX (r.getD i ⟨#[]⟩)] = _
  rw [csL_tk (by omega) (fun j hj => hp j (by omega)), show mX (r.getD i ⟨#[]⟩) = msC _ from if_pos (hp i (by omega)).1, List.take_succ_eq_append_getElem (by omega), List.map_append, show r.getD i ⟨#[]⟩ = r[i] by simp [show i < r.length by omega]]; rfl
theorem pOf_all {r : List ByteArray} (h : ∀ j, j < r.length → pOf (r.getD j ⟨#[]⟩)) : ∀ s ∈ r, pOf s := fun s hs => by
 obtain ⟨i, hi, e⟩ := List.getElem_of_mem hs
 have := h i hi
 rwa [show r.getD i ⟨#[]⟩ = s by simp [hi, e]] at this
theorem I3 {r : List ByteArray} {i : Nat} (h : i < r.length) : r.getD i ⟨#[]⟩ ∈ r := by
 rw [show r.getD i ⟨#[]⟩ = r[i] by simp [h]]; exact List.getElem_mem h
theorem I4 {p : ByteArray} (h : (lsC p).isSome = true) : lsC p = some (lsO p) := by
 unfold lsO
 match e : lsC p with
 | some l => rfl
 | none => rw [e] at h; cases h
theorem W6 {p : ByteArray} (h : lsC p = none) : ctC p = none := by unfold ctC; rw [h]
theorem ct_len {p : ByteArray} {l : List ByteArray} (h : lsC p = some l) (hl : ¬ (1 ≤ l.length ∧ l.length ≤ 8)) : ctC p = none := by
 unfold ctC; rw [h]
 match l with
 | [] => rfl
 | b :: r => show (if r.length ≤ 7 then _ else none) = none; rw [if_neg (by rw [List.length_cons] at hl; omega)]
theorem ct_at {p b : ByteArray} {r : List ByteArray} (h : lsC p = some (b :: r)) (hl : r.length ≤ 7) : ctC p = (mss r).map (Ct.mk b) := by
 unfold ctC; rw [h]; exact if_pos hl
theorem rowsM (L : List Msg) : rowsV (L.map Msg.T) = L.map Msg.V := by unfold rowsV; rw [List.map_map]; rfl
def CB (s : ByteArray) (o : V) : Option Blk := some ⟨[[.str s, o]], 2, 44⟩
structure CS where
 i : Nat
 o : V
 b : Nat
 m : Nat
 g : Heap
structure CI (s : ByteArray) (r : List ByteArray) (a : CS) : Prop where
 il : a.i ≤ r.length
 g0 : a.g 0 = CB ⟨#[]⟩ .nsl
 g1 : a.g 1 = CB s a.o
 out : LsOK Msg.V 7 37 2 (csL r a.i) a.o a.b a.m a.g
 mm : 2 ≤ a.m
 ok : ∀ j, j < a.i → pOf (r.getD j ⟨#[]⟩)
theorem s148 (p : ByteArray) : Pure En 148 [.one (.str p)] [.agg ((ctX p).T false), .one (.bool (ctC p).isSome)] := by
 refine Pure.of_ev (st := [4, 12]) Tryz.func148 rfl kb ?_
 refine C8 (s147 p) rfl rfl rfl ?_
 refine brB ?_ ?_ <;> intro h1_4
 ·refine B6 (p12 _ _ _) rfl j2 ?_ ?_ <;> intro h2_5
  ·refine E1 fun G hG => ?_
   have hG0 : G 0 = CB ⟨#[]⟩ .nsl := by rw [hG]; exact Q0
   unfold CB at hG0
   have hls := I4 h1_4
   have hl8 : 1 ≤ (lsO p).length ∧ (lsO p).length ≤ 8 := by rw [List.length_map] at h2_5; omega
   obtain ⟨s, r, hbr⟩ : ∃ s r, lsO p = s :: r := by
    match e : lsO p with
    | [] => rw [e] at hl8; have := hl8.1; simp at this
    | s :: r => exact ⟨s, r, rfl⟩
   rw [hbr] at hls hl8 ⊢
   have hr7 : r.length ≤ 7 := by rw [List.length_cons] at hl8; omega
   have hat := ct_at hls hr7
   have hz : ∀ c ∈ List.map tT (s :: r), c.length = 1 := fun c hc => by obtain ⟨x, _, rfl⟩ := List.mem_map.1 hc; rfl
   have hll : (List.map tT (s :: r)).length = r.length + 1 := by simp
   have hl2 : (List.take (r.map tT).length (r.map tT)).length = r.length := by simp
   (refine C2 (D7 (by first | rfl | assumption | (first | rfl | (rw [List.take_length]; exact B0 tT ⟨#[]⟩ (k := i) (by omega)))) rfl ?_))
   (apply est (u := .agg [.str _, _]) j3; exact Q0; exact Q8; exact j4; exact kb; rfl)
   (refine esll j5 ?_ ?_ ?_ ?_ ?_; (first | omega | assumption); (first | omega | assumption); (first | omega | assumption); (first | rfl | assumption | (focus (intro c hc; obtain ⟨x, hx, rfl⟩ := List.mem_map.1 hc; rfl)) | simp))
   refine U7 fun g0 hg0 => ?_
   refine A9 (fun (a : CS) => [.unk, .unk, .ptr 0 0 0, .unk, .unk, .unk, .ptr 1 0 0, .unk, .unk, .unk, .unk, .unk, .unk, .unk, .unk, .unk, .unk, .unk, .unk, .unk, .unk, .unk, .unk, .unk, .unk, .unk, .unk, .unk, .unk, .unk, .sl true false (List.take (r.map tT).length (r.map tT)), .int .i64 (List.take (r.map tT).length (r.map tT)).length, .int .i64 a.i]) (fun (a : CS) => a.g) (fun (a : CS) => a.m) (fun (a : CS) => CI s r a) (fun (a : CS) => r.length - a.i) ⟨0, .nsl, 0, 1 + 1, g0⟩ ?_ ?_ ?_ ?_ ?_
   ·refine ⟨Nat.zero_le _, ?_, ?_, .inl ⟨rfl, rfl⟩, by dsimp only; omega, S9⟩
    ·dsimp only; rw [hg0]; exact Q0
    ·dsimp only; rw [hg0]; exact Q0
   ·(repeat first | exact LE.nil _ | refine LE.unk _ _ ?_ | refine LE.eq _ _ _ rfl ?_)
   ·exact LessH.refl _
   ·exact Nat.le_refl _
   intro ⟨i, o, b, m, g⟩ hI ih
   have q0 := hI.il
   have hg0 := hI.g0
   have hg1 := hI.g1
   have q4 := hI.mm
   have hok := hI.ok
   unfold CB at hg0 hg1
   dsimp only at q0 hg0 hg1 q4 hok ⊢
   have hrl := csL_len r i
   rcases hI.out with ⟨e0, e1⟩ | ⟨e1, hbO2, hbO⟩
   all_goals dsimp only at e1
   ·skip
    obtain rfl : i = 0 := by rw [e0] at hrl; exact hrl.symm
    subst e1
    refine A7 (st := [4, 12]) ?_
    refine br ?_ ?_ <;> intro h6_0
    ·(refine C2 (D7 (by first | rfl | assumption | (first | rfl | (rw [List.take_length]; exact B0 tT ⟨#[]⟩ (k := 0) (by omega)))) rfl ?_))
     refine C8 (s218 (r.getD 0 ⟨#[]⟩)) rfl rfl rfl ?_
     refine brB ?_ ?_ <;> intro h8_4
     ·(apply est (u := .agg [.int _ _, .int _ _, .int _ _, .int _ _, .str _, .str _, .str _]) j3; exact Q0; exact Q8; exact j4; exact kb; rfl)
      (apply D2 (vs := [.int _ _, .int _ _, .int _ _, .int _ _, .str _, .str _, .str _]) j2; exact Q0; exact Q8; rfl; exact kb; rfl)
      refine B6 (s219 (mX (r.getD 0 ⟨#[]⟩))) rfl j2 ?_ ?_ <;> intro h9_4
      ·refine A4 ?_ (by exact Q0) (by exact Q8)
       (apply D2 (vs := [.int _ _, .int _ _, .int _ _, .int _ _, .str _, .str _, .str _]) j2; exact Q0; exact Q8; rfl; exact kb; rfl)
       refine D3 (es := [[.int _ _, .int _ _, .int _ _, .int _ _, .str _, .str _, .str _]]) j4 kz kb rfl rfl ?_
       first | (apply eap (s' := 80) (es := [[.int _ _, .int _ _, .int _ _, .int _ _, .str _, .str _, .str _]]) rfl rfl; exact Q0; exact j2; exact Q29; exact j2; exact kz; exact H5; exact Q6; exact Q4; exact Q4) | (apply ean (s' := 80) (es := [[.int _ _, .int _ _, .int _ _, .int _ _, .str _, .str _, .str _]]) rfl j3 kz; exact H5; exact Q6; exact Q4; exact Q4; exact Q4)
       (apply est (u := .view _ _ _) j3; exact Q0; exact Q8; exact j4; exact kb; rfl)
       refine E1 fun G hG => ?_
       refine B7 ?_
       have hpi : pOf (r.getD 0 ⟨#[]⟩) := ⟨of_decide_eq_true h8_4, by rw [show mX (r.getD 0 ⟨#[]⟩) = msC _ from if_pos (of_decide_eq_true h8_4)] at h9_4; exact h9_4.1⟩
       refine C6 (ih ⟨0 + 1, .view (m + 1 + 1) 0 1, m + 1 + 1, m + 1 + 1 + 1, G⟩ ⟨by dsimp only; omega, ?_, ?_, .inr ⟨?_, ?_, by dsimp only; omega, by dsimp only; omega⟩, by dsimp only; omega, fun j hj => ?_⟩ (by dsimp only; omega)) (by (repeat first | exact LE.nil _ | refine LE.unk _ _ ?_ | refine LE.eq _ _ _ rfl ?_)) (LessH.refl _) (Nat.le_refl _)
       ·dsimp only; rw [hG]; exact Q0
       ·dsimp only; rw [hG]; exact Q0
       ·show V.view _ 0 _ = V.view _ 0 (csL r 0 ++ [_]).length; rw [List.length_append]; rfl
       ·dsimp only; rw [hG]; show _ = some (Blk.mk ((csL r 0 ++ [_]).map Msg.V) 7 37); rw [List.map_append]; exact Q0
       ·rcases Nat.lt_succ_iff_lt_or_eq.1 hj with q | q
        ·exact hok j q
        ·rw [q]; exact hpi
      ·(apply est (u := .agg [.str _, _]) j3; exact Q0; exact Q8; exact j4; exact kb; rfl)
       have hno : ctC p = none := by
        rw [hat, O6 (I3 (i := 0) (by omega)) (fun q => ?_)]
        ·rfl
        ·first
         | exact absurd q.1 (of_decide_eq_false h8_4)
         | (rw [show mX (r.getD 0 ⟨#[]⟩) = msC _ from if_pos q.1] at h9_4; exact h9_4 ⟨q.2, q.1.2⟩)
       rw [show ctX p = Ct0 by unfold ctX; rw [hno], hno]
       refine C7 [] (A0 (A2 rfl (by exact Q0) j2 kb rfl) (A0 rfl A1)) ?_
       exact (SnapL.cons _ _ _ _ (SnapC.agg (.cons _ _ _ _ (.str _) (.cons _ _ _ _ .nslW .nil))) (SnapL.cons _ _ _ _ (.one _ _ (.bool _)) SnapL.nil))
     ·(apply est (u := .agg [.int _ _, .int _ _, .int _ _, .int _ _, .str _, .str _, .str _]) j3; exact Q0; exact Q8; exact j4; exact kb; rfl)
      (apply est (u := .agg [.str _, _]) j3; exact Q0; exact Q8; exact j4; exact kb; rfl)
      have hno : ctC p = none := by
       rw [hat, O6 (I3 (i := 0) (by omega)) (fun q => ?_)]
       ·rfl
       ·first
        | exact absurd q.1 (of_decide_eq_false h8_4)
        | (rw [show mX (r.getD 0 ⟨#[]⟩) = msC _ from if_pos q.1] at h9_4; exact h9_4 ⟨q.2, q.1.2⟩)
      rw [show ctX p = Ct0 by unfold ctX; rw [hno], hno]
      refine C7 [] (A0 (A2 rfl (by exact Q0) j2 kb rfl) (A0 rfl A1)) ?_
      exact (SnapL.cons _ _ _ _ (SnapC.agg (.cons _ _ _ _ (.str _) (.cons _ _ _ _ .nslW .nil))) (SnapL.cons _ _ _ _ (.one _ _ (.bool _)) SnapL.nil))
    ·(apply D2 (vs := [.str _, _]) j2; exact Q0; exact Q8; rfl; exact kb; rfl)
     (apply est (u := .agg [.str _, _]) j3; exact Q0; exact Q8; exact j4; exact kb; rfl)
     have hyes : ctC p = some ⟨s, csL r 0⟩ := by
      have e0 : r = [] := List.length_eq_zero_iff.1 (by omega)
      rw [hat, e0]; rfl
     rw [show ctX p = ⟨s, csL r 0⟩ by unfold ctX; rw [hyes], hyes]
     refine C7 [] (A0 (A2 rfl (by exact Q0) j2 kb rfl) (A0 rfl A1)) ?_
     exact (SnapL.cons _ _ _ _ (SnapC.agg (.cons _ _ _ _ (.str _) (.cons _ _ _ _ .nslW .nil))) (SnapL.cons _ _ _ _ (.one _ _ (.bool _)) SnapL.nil))
   ·skip
    dsimp only at hbO2 hbO
    subst e1
    refine A7 (st := [4, 12]) ?_
    refine br ?_ ?_ <;> intro h6_0
    ·(refine C2 (D7 (by first | rfl | assumption | (first | rfl | (rw [List.take_length]; exact B0 tT ⟨#[]⟩ (k := i) (by omega)))) rfl ?_))
     refine C8 (s218 (r.getD i ⟨#[]⟩)) rfl rfl rfl ?_
     refine brB ?_ ?_ <;> intro h8_4
     ·(apply est (u := .agg [.int _ _, .int _ _, .int _ _, .int _ _, .str _, .str _, .str _]) j3; exact Q0; exact Q8; exact j4; exact kb; rfl)
      (apply D2 (vs := [.int _ _, .int _ _, .int _ _, .int _ _, .str _, .str _, .str _]) j2; exact Q0; exact Q8; rfl; exact kb; rfl)
      refine B6 (s219 (mX (r.getD i ⟨#[]⟩))) rfl j2 ?_ ?_ <;> intro h9_4
      ·refine A4 ?_ (by exact Q0) (by exact Q8)
       (apply D2 (vs := [.int _ _, .int _ _, .int _ _, .int _ _, .str _, .str _, .str _]) j2; exact Q0; exact Q8; rfl; exact kb; rfl)
       refine D3 (es := [[.int _ _, .int _ _, .int _ _, .int _ _, .str _, .str _, .str _]]) j4 kz kb rfl rfl ?_
       first | (apply eap (s' := 80) (es := [[.int _ _, .int _ _, .int _ _, .int _ _, .str _, .str _, .str _]]) rfl rfl; exact Q0; exact j2; exact Q29; exact j2; exact kz; exact H5; exact Q6; exact Q4; exact Q4) | (apply ean (s' := 80) (es := [[.int _ _, .int _ _, .int _ _, .int _ _, .str _, .str _, .str _]]) rfl j3 kz; exact H5; exact Q6; exact Q4; exact Q4; exact Q4)
       (apply est (u := .view _ _ _) j3; exact Q0; exact Q8; exact j4; exact kb; rfl)
       refine E1 fun G hG => ?_
       refine B7 ?_
       have hpi : pOf (r.getD i ⟨#[]⟩) := ⟨of_decide_eq_true h8_4, by rw [show mX (r.getD i ⟨#[]⟩) = msC _ from if_pos (of_decide_eq_true h8_4)] at h9_4; exact h9_4.1⟩
       refine C6 (ih ⟨i + 1, .view (m + 1 + 1) 0 ((csL r i).length + 1), m + 1 + 1, m + 1 + 1 + 1, G⟩ ⟨by dsimp only; omega, ?_, ?_, .inr ⟨?_, ?_, by dsimp only; omega, by dsimp only; omega⟩, by dsimp only; omega, fun j hj => ?_⟩ (by dsimp only; omega)) (by (repeat first | exact LE.nil _ | refine LE.unk _ _ ?_ | refine LE.eq _ _ _ rfl ?_)) (LessH.refl _) (Nat.le_refl _)
       ·dsimp only; rw [hG]; exact Q0
       ·dsimp only; rw [hG]; exact Q0
       ·show V.view _ 0 _ = V.view _ 0 (csL r i ++ [_]).length; rw [List.length_append]; rfl
       ·dsimp only; rw [hG]; show _ = some (Blk.mk ((csL r i ++ [_]).map Msg.V) 7 37); rw [List.map_append]; exact Q0
       ·rcases Nat.lt_succ_iff_lt_or_eq.1 hj with q | q
        ·exact hok j q
        ·rw [q]; exact hpi
      ·(apply est (u := .agg [.str _, _]) j3; exact Q0; exact Q8; exact j4; exact kb; rfl)
       have hno : ctC p = none := by
        rw [hat, O6 (I3 (i := i) (by omega)) (fun q => ?_)]
        ·rfl
        ·first
         | exact absurd q.1 (of_decide_eq_false h8_4)
         | (rw [show mX (r.getD i ⟨#[]⟩) = msC _ from if_pos q.1] at h9_4; exact h9_4 ⟨q.2, q.1.2⟩)
       rw [show ctX p = Ct0 by unfold ctX; rw [hno], hno]
       refine C7 [] (A0 (A2 rfl (by exact Q0) j2 kb rfl) (A0 rfl A1)) ?_
       exact (SnapL.cons _ _ _ _ (SnapC.agg (.cons _ _ _ _ (.str _) (.cons _ _ _ _ .nslW .nil))) (SnapL.cons _ _ _ _ (.one _ _ (.bool _)) SnapL.nil))
     ·(apply est (u := .agg [.int _ _, .int _ _, .int _ _, .int _ _, .str _, .str _, .str _]) j3; exact Q0; exact Q8; exact j4; exact kb; rfl)
      (apply est (u := .agg [.str _, _]) j3; exact Q0; exact Q8; exact j4; exact kb; rfl)
      have hno : ctC p = none := by
       rw [hat, O6 (I3 (i := i) (by omega)) (fun q => ?_)]
       ·rfl
       ·first
        | exact absurd q.1 (of_decide_eq_false h8_4)
        | (rw [show mX (r.getD i ⟨#[]⟩) = msC _ from if_pos q.1] at h9_4; exact h9_4 ⟨q.2, q.1.2⟩)
      rw [show ctX p = Ct0 by unfold ctX; rw [hno], hno]
      refine C7 [] (A0 (A2 rfl (by exact Q0) j2 kb rfl) (A0 rfl A1)) ?_
      exact (SnapL.cons _ _ _ _ (SnapC.agg (.cons _ _ _ _ (.str _) (.cons _ _ _ _ .nslW .nil))) (SnapL.cons _ _ _ _ (.one _ _ (.bool _)) SnapL.nil))
    ·(apply D2 (vs := [.str _, _]) j2; exact Q0; exact Q8; rfl; exact kb; rfl)
     (apply est (u := .agg [.str _, _]) j3; exact Q0; exact Q8; exact j4; exact kb; rfl)
     have hyes : ctC p = some ⟨s, csL r i⟩ := by
      obtain rfl : i = r.length := by omega
      rw [hat, mss_yes (pOf_all hok), csL_tk (Nat.le_refl _) hok, List.take_length]; rfl
     rw [show ctX p = ⟨s, csL r i⟩ by unfold ctX; rw [hyes], hyes]
     refine C7 [b] (A0 (A2 rfl (by exact Q0) j2 kb rfl) (A0 rfl A1)) ?_
     exact (SnapL.cons _ _ _ _ (SnapC.agg (.cons _ _ _ _ (.str _) (.cons _ _ _ _ (.weak _ _ (A3 (b := ⟨(csL r i).map Msg.V, 7, 37⟩) ((csL r i).map Msg.T) (List.mem_singleton.2 rfl) (by exact Q0) (rowsM _).symm (List.length_map ..).symm)) .nil))) (SnapL.cons _ _ _ _ (.one _ _ (.bool _)) SnapL.nil))
  ·(apply est (u := .agg [.str _, _]) j3; exact Q0; exact Q8; exact j4; exact kb; rfl)
   have hno : ctC p = none := by
    first
    | exact ct_len (I4 h1_4) (by rw [List.length_map] at h2_5; omega)
    | exact W6 (by match e : lsC p with | none => rfl | some l => rw [e] at h1_4; cases h1_4)
   rw [show ctX p = Ct0 by unfold ctX; rw [hno], hno]
   refine C7 [] (A0 (A2 rfl (by exact Q0) j2 kb rfl) (A0 rfl A1)) ?_
   exact (SnapL.cons _ _ _ _ (SnapC.agg (.cons _ _ _ _ (.str _) (.cons _ _ _ _ .nslW .nil))) (SnapL.cons _ _ _ _ (.one _ _ (.bool _)) SnapL.nil))
 ·(apply est (u := .agg [.str _, _]) j3; exact Q0; exact Q8; exact j4; exact kb; rfl)
  have hno : ctC p = none := by
   first
   | exact ct_len (I4 h1_4) (by rw [List.length_map] at h2_5; omega)
   | exact W6 (by match e : lsC p with | none => rfl | some l => rw [e] at h1_4; cases h1_4)
  rw [show ctX p = Ct0 by unfold ctX; rw [hno], hno]
  refine C7 [] (A0 (A2 rfl (by exact Q0) j2 kb rfl) (A0 rfl A1)) ?_
  exact (SnapL.cons _ _ _ _ (SnapC.agg (.cons _ _ _ _ (.str _) (.cons _ _ _ _ .nslW .nil))) (SnapL.cons _ _ _ _ (.one _ _ (.bool _)) SnapL.nil))
open Go.V
set_option linter.unusedVariables false
set_option linter.unusedSimpArgs false
set_option maxRecDepth 20000
set_option maxHeartbeats 4000000
theorem s50 (a b c : Int) : Pure En 58 [.one (.int .i64 a), .one (.int .i64 b), .one (.int .i64 c)] [.one (.bool (decide (b ≤ a ∧ a ≤ c)))] := by
 refine Pure.of_ev (st := []) Tryz.func58 rfl kb ?_
 refine br ?_ ?_ <;> intro h1_2
 ·refine br ?_ ?_ <;> intro h1_6
  ·first | (refine B4 rfl ?_; omega) | (refine B3 rfl ?_; omega)
  ·first | (refine B4 rfl ?_; omega) | (refine B3 rfl ?_; omega)
 ·first | (refine B4 rfl ?_; omega) | (refine B3 rfl ?_; omega)
theorem s115 (a : Int) : Pure En 315 [.one (.int .u8 a)] [.one (.bool (decide (letter a)))] := by
 refine Pure.of_ev (st := []) Tryz.func315 rfl kb ?_
 refine br ?_ ?_ <;> intro h1_1
 ·refine br ?_ ?_ <;> intro h1_4
  ·first | (refine B4 rfl ?_; unfold letter; omega) | (refine B3 rfl ?_; unfold letter; omega)
  ·refine br ?_ ?_ <;> intro h1_8
   ·refine br ?_ ?_ <;> intro h1_11
    ·first | (refine B4 rfl ?_; unfold letter; omega) | (refine B3 rfl ?_; unfold letter; omega)
    ·refine br ?_ ?_ <;> intro h1_16
     ·first | (refine B4 rfl ?_; unfold letter; omega) | (refine B3 rfl ?_; unfold letter; omega)
     ·first | (refine B4 rfl ?_; unfold letter; omega) | (refine B3 rfl ?_; unfold letter; omega)
   ·refine br ?_ ?_ <;> intro h1_16
    ·first | (refine B4 rfl ?_; unfold letter; omega) | (refine B3 rfl ?_; unfold letter; omega)
    ·first | (refine B4 rfl ?_; unfold letter; omega) | (refine B3 rfl ?_; unfold letter; omega)
 ·refine br ?_ ?_ <;> intro h1_8
  ·refine br ?_ ?_ <;> intro h1_11
   ·first | (refine B4 rfl ?_; unfold letter; omega) | (refine B3 rfl ?_; unfold letter; omega)
   ·refine br ?_ ?_ <;> intro h1_16
    ·first | (refine B4 rfl ?_; unfold letter; omega) | (refine B3 rfl ?_; unfold letter; omega)
    ·first | (refine B4 rfl ?_; unfold letter; omega) | (refine B3 rfl ?_; unfold letter; omega)
  ·refine br ?_ ?_ <;> intro h1_16
   ·first | (refine B4 rfl ?_; unfold letter; omega) | (refine B3 rfl ?_; unfold letter; omega)
   ·first | (refine B4 rfl ?_; unfold letter; omega) | (refine B3 rfl ?_; unfold letter; omega)
theorem s116 (a : Int) : Pure En 316 [.one (.int .u8 a)] [.one (.bool (decide (digit a)))] := by
 refine Pure.of_ev (st := []) Tryz.func316 rfl kb ?_
 refine br ?_ ?_ <;> intro h1_1
 ·refine br ?_ ?_ <;> intro h1_4
  ·first | (refine B4 rfl ?_; unfold digit; omega) | (refine B3 rfl ?_; unfold digit; omega)
  ·first | (refine B4 rfl ?_; unfold digit; omega) | (refine B3 rfl ?_; unfold digit; omega)
 ·first | (refine B4 rfl ?_; unfold digit; omega) | (refine B3 rfl ?_; unfold digit; omega)
theorem s102 (s : ByteArray) : Pure En 300 [.one (.str s)] [.one (.bool (decide (word s)))] := by
 refine Pure.of_ev (st := []) Tryz.func300 rfl kb ?_
 refine br ?_ ?_ <;> intro h1_2
 ·first
   | exact B4 rfl ⟨by omega, by omega, by assumption, fun j hj => hI.2.2 j (by omega)⟩
   | (refine B3 rfl fun hw => ?_; obtain ⟨w1, w2, w3, w4⟩ := hw; first | omega | exact h1_11 w3 | exact (w4 i (by omega)).elim h6_3 h6_9)
 ·refine br ?_ ?_ <;> intro h1_6
  ·first
    | exact B4 rfl ⟨by omega, by omega, by assumption, fun j hj => hI.2.2 j (by omega)⟩
    | (refine B3 rfl fun hw => ?_; obtain ⟨w1, w2, w3, w4⟩ := hw; first | omega | exact h1_11 w3 | exact (w4 i (by omega)).elim h6_3 h6_9)
  ·refine lit 0 rfl (C2 ?_)
   refine B6 (s115 _) rfl j2 ?_ ?_ <;> intro h1_11
   ·refine X2 (fun (i : Nat) => [.str s, .unk, .unk, .int .i64 i]) (fun (i : Nat) => 1 ≤ i ∧ i ≤ s.size ∧ ∀ j, j < i → letter (bt s j) ∨ digit (bt s j)) (fun (i : Nat) => s.size - i) 1 ?_ ?_ ?_
    ·exact ⟨by omega, by omega, U5 S9 (.inl h1_11)⟩
    ·(repeat first | exact LE.nil _ | refine LE.unk _ _ ?_ | refine LE.eq _ _ _ rfl ?_)
    intro i hI ih
    refine A7 (st := []) ?_
    refine br ?_ ?_ <;> intro h4_3
    ·refine C2 ?_
     refine B6 (s115 _) rfl j2 ?_ ?_ <;> intro h6_3
     ·refine B7 ?_
      exact wlN (ih (i + 1) ⟨by omega, by omega, U5 hI.2.2 (by first | exact .inl h6_3 | exact .inr h6_9)⟩ (by omega)) (by (repeat first | exact LE.nil _ | refine LE.unk _ _ ?_ | refine LE.eq _ _ _ rfl ?_))
     ·refine C2 ?_
      refine B6 (s116 _) rfl j2 ?_ ?_ <;> intro h6_9
      ·refine B7 ?_
       exact wlN (ih (i + 1) ⟨by omega, by omega, U5 hI.2.2 (by first | exact .inl h6_3 | exact .inr h6_9)⟩ (by omega)) (by (repeat first | exact LE.nil _ | refine LE.unk _ _ ?_ | refine LE.eq _ _ _ rfl ?_))
      ·first
        | exact B4 rfl ⟨by omega, by omega, by assumption, fun j hj => hI.2.2 j (by omega)⟩
        | (refine B3 rfl fun hw => ?_; obtain ⟨w1, w2, w3, w4⟩ := hw; first | omega | exact h1_11 w3 | exact (w4 i (by omega)).elim h6_3 h6_9)
    ·first
      | exact B4 rfl ⟨by omega, by omega, by assumption, fun j hj => hI.2.2 j (by omega)⟩
      | (refine B3 rfl fun hw => ?_; obtain ⟨w1, w2, w3, w4⟩ := hw; first | omega | exact h1_11 w3 | exact (w4 i (by omega)).elim h6_3 h6_9)
   ·first
     | exact B4 rfl ⟨by omega, by omega, by assumption, fun j hj => hI.2.2 j (by omega)⟩
     | (refine B3 rfl fun hw => ?_; obtain ⟨w1, w2, w3, w4⟩ := hw; first | omega | exact h1_11 w3 | exact (w4 i (by omega)).elim h6_3 h6_9)
theorem s90 (s : ByteArray) : Pure En 255 [.one (.str s)] [.one (.bool (decide (word s)))] := by
 refine Pure.of_ev (st := []) Tryz.func255 rfl kb ?_
 refine B6 (s102 _) rfl j2 ?_ ?_ <;> intro h1_1
 ·first | exact B4 rfl (by assumption) | exact B3 rfl (by assumption)
 ·first | exact B4 rfl (by assumption) | exact B3 rfl (by assumption)
theorem s76 (s : ByteArray) (n : Int) : Pure En 194 [.one (.str s), .one (.int .i64 n)] [.one (.bool (decide (s.size ≤ n ∧ word s)))] := by
 refine Pure.of_ev (st := []) Tryz.func194 rfl kb ?_
 refine B6 (s50 _ _ _) rfl j2 ?_ ?_ <;> intro h1_3
 ·refine B6 (s90 _) rfl j2 ?_ ?_ <;> intro h1_6
  ·first | exact B4 rfl ⟨by omega, by assumption⟩ | (refine B3 rfl fun hw => ?_; obtain ⟨w1, w2⟩ := hw; first | exact h1_6 w2 | (have := w2.1; omega))
  ·first | exact B4 rfl ⟨by omega, by assumption⟩ | (refine B3 rfl fun hw => ?_; obtain ⟨w1, w2⟩ := hw; first | exact h1_6 w2 | (have := w2.1; omega))
 ·first | exact B4 rfl ⟨by omega, by assumption⟩ | (refine B3 rfl fun hw => ?_; obtain ⟨w1, w2⟩ := hw; first | exact h1_6 w2 | (have := w2.1; omega))
theorem s52 (r : Rq) : Pure En 128 [.agg r.T] [.one (.bool (decide r.OK))] := by
 refine Pure.of_ev (st := []) Tryz.func128 rfl kb ?_
 refine A4 ?_
 refine B6 (s50 _ _ _) rfl j2 ?_ ?_ <;> intro h1_2
 ·refine A4 ?_
  refine B6 (s50 _ _ _) rfl j2 ?_ ?_ <;> intro h1_6
  ·refine A4 ?_
   refine B6 (s50 _ _ _) rfl j2 ?_ ?_ <;> intro h1_11
   ·refine A4 ?_
    refine B6 (s50 _ _ _) rfl j2 ?_ ?_ <;> intro h1_16
    ·refine A4 ?_
     refine B6 (s76 _ _) rfl j2 ?_ ?_ <;> intro h1_21
     ·refine A4 ?_
      refine br ?_ ?_ <;> intro h1_26
      ·refine A4 ?_
       refine br ?_ ?_ <;> intro h1_29
       ·first
         | exact B4 rfl ⟨by omega, by omega, by omega, by omega, ⟨by omega, h1_21.2⟩, by omega⟩
         | (refine B3 rfl fun hw => ?_; obtain ⟨w1, w2, w3, w4, w5, w6⟩ := hw; first | omega | exact h1_21 ⟨by have := w5.1; omega, w5.2⟩)
       ·refine A4 ?_
        refine br ?_ ?_ <;> intro h1_33
        ·first
          | exact B4 rfl ⟨by omega, by omega, by omega, by omega, ⟨by omega, h1_21.2⟩, by omega⟩
          | (refine B3 rfl fun hw => ?_; obtain ⟨w1, w2, w3, w4, w5, w6⟩ := hw; first | omega | exact h1_21 ⟨by have := w5.1; omega, w5.2⟩)
        ·first
          | exact B4 rfl ⟨by omega, by omega, by omega, by omega, ⟨by omega, h1_21.2⟩, by omega⟩
          | (refine B3 rfl fun hw => ?_; obtain ⟨w1, w2, w3, w4, w5, w6⟩ := hw; first | omega | exact h1_21 ⟨by have := w5.1; omega, w5.2⟩)
      ·refine A4 ?_
       refine br ?_ ?_ <;> intro h1_29
       ·first
         | exact B4 rfl ⟨by omega, by omega, by omega, by omega, ⟨by omega, h1_21.2⟩, by omega⟩
         | (refine B3 rfl fun hw => ?_; obtain ⟨w1, w2, w3, w4, w5, w6⟩ := hw; first | omega | exact h1_21 ⟨by have := w5.1; omega, w5.2⟩)
       ·refine A4 ?_
        refine br ?_ ?_ <;> intro h1_33
        ·first
          | exact B4 rfl ⟨by omega, by omega, by omega, by omega, ⟨by omega, h1_21.2⟩, by omega⟩
          | (refine B3 rfl fun hw => ?_; obtain ⟨w1, w2, w3, w4, w5, w6⟩ := hw; first | omega | exact h1_21 ⟨by have := w5.1; omega, w5.2⟩)
        ·first
          | exact B4 rfl ⟨by omega, by omega, by omega, by omega, ⟨by omega, h1_21.2⟩, by omega⟩
          | (refine B3 rfl fun hw => ?_; obtain ⟨w1, w2, w3, w4, w5, w6⟩ := hw; first | omega | exact h1_21 ⟨by have := w5.1; omega, w5.2⟩)
     ·first
       | exact B4 rfl ⟨by omega, by omega, by omega, by omega, ⟨by omega, h1_21.2⟩, by omega⟩
       | (refine B3 rfl fun hw => ?_; obtain ⟨w1, w2, w3, w4, w5, w6⟩ := hw; first | omega | exact h1_21 ⟨by have := w5.1; omega, w5.2⟩)
    ·first
      | exact B4 rfl ⟨by omega, by omega, by omega, by omega, ⟨by omega, h1_21.2⟩, by omega⟩
      | (refine B3 rfl fun hw => ?_; obtain ⟨w1, w2, w3, w4, w5, w6⟩ := hw; first | omega | exact h1_21 ⟨by have := w5.1; omega, w5.2⟩)
   ·first
     | exact B4 rfl ⟨by omega, by omega, by omega, by omega, ⟨by omega, h1_21.2⟩, by omega⟩
     | (refine B3 rfl fun hw => ?_; obtain ⟨w1, w2, w3, w4, w5, w6⟩ := hw; first | omega | exact h1_21 ⟨by have := w5.1; omega, w5.2⟩)
  ·first
    | exact B4 rfl ⟨by omega, by omega, by omega, by omega, ⟨by omega, h1_21.2⟩, by omega⟩
    | (refine B3 rfl fun hw => ?_; obtain ⟨w1, w2, w3, w4, w5, w6⟩ := hw; first | omega | exact h1_21 ⟨by have := w5.1; omega, w5.2⟩)
 ·first
   | exact B4 rfl ⟨by omega, by omega, by omega, by omega, ⟨by omega, h1_21.2⟩, by omega⟩
   | (refine B3 rfl fun hw => ?_; obtain ⟨w1, w2, w3, w4, w5, w6⟩ := hw; first | omega | exact h1_21 ⟨by have := w5.1; omega, w5.2⟩)
theorem s49 (n : Int) : Pure En 57 [.one (.int .i64 n)] [.one (.bool (decide (nodes n)))] := by
 refine Pure.of_ev (st := []) Tryz.func57 rfl kb ?_
 refine br ?_ ?_ <;> intro h1_1
 ·first | (refine B4 rfl ?_; unfold nodes; omega) | (refine B3 rfl ?_; unfold nodes; omega)
 ·refine br ?_ ?_ <;> intro h1_4
  ·first | (refine B4 rfl ?_; unfold nodes; omega) | (refine B3 rfl ?_; unfold nodes; omega)
  ·refine br ?_ ?_ <;> intro h1_8
   ·first | (refine B4 rfl ?_; unfold nodes; omega) | (refine B3 rfl ?_; unfold nodes; omega)
   ·first | (refine B4 rfl ?_; unfold nodes; omega) | (refine B3 rfl ?_; unfold nodes; omega)
theorem N5 {h : Heap} {ids : List Nat} {r : Bool} {id m : Nat} {B : List Int} (hid : id ∈ ids) (hb : h id = some ⟨B.map bV, 1, 5⟩) (hm : m = B.length) : Snap h ids r (.view id 0 m) (.sl true (B.map bT)) :=
 A3 (B.map bT) hid hb (rowsBf true B).symm (by rw [List.length_map]; exact hm)
theorem V0 (x : Int) (m : Nat) : ∀ j, (topL x m j).length = j
 | 0 => rfl
 | j + 1 => by rw [show topL x m (j + 1) = topL x m j ++ [bt8 x ((m : Int) - 1 - (j : Int))] from rfl, List.length_append, V0 x m j]; rfl
theorem s105 (x : Int) (m : Nat) (hm : m ≤ 8) : Pure En 213 [.one (.int .i64 x), .one (.int .i64 m)] [.one (.sl true ((numL x m).map bT))] := by
 have hl := V0 x m
 refine Pure.of_ev (st := []) Tryz.func213 rfl kb ?_
 refine D3 (es := []) j4 kz kb rfl rfl ?_
 refine D6 ⟨by exact L2, by exact L2⟩ ?_
 refine A9 (fun (a : Int × Nat × Nat × Nat) => [.int .i64 x, .unk, .unk, .unk, .unk, .view a.2.2.1 0 a.2.1, .int .i64 a.1]) (fun (a : Int × Nat × Nat × Nat) => hp [(a.2.2.1, ⟨(topL x m ((m : Int) - 1 - a.1).toNat).map bV, 1, 5⟩)]) (fun (a : Int × Nat × Nat × Nat) => a.2.2.2) (fun (a : Int × Nat × Nat × Nat) => (-1 ≤ a.1 ∧ a.1 ≤ (m : Int) - 1) ∧ a.2.2.1 < a.2.2.2 ∧ a.2.1 = ((m : Int) - 1 - a.1).toNat) (fun (a : Int × Nat × Nat × Nat) => (a.1 + 1).toNat) ((m : Int) - 1, 0, 0, 1) ?_ ?_ ?_ ?_ ?_
 ·exact ⟨by dsimp only; omega, by dsimp only; omega, by dsimp only; omega⟩
 ·(repeat first | exact LE.nil _ | refine LE.unk _ _ ?_ | refine LE.eq _ _ _ rfl ?_)
 ·dsimp only
  (repeat first | exact B8 | (refine C0 ?_ ?_; (first | exact Q0 | (first | (focus (((simp (disch := omega) only [app, upd, hp, if_pos, if_neg])); exact congrArg (fun z => some (Blk.mk (List.map bV z) 1 5)) (show [] = topL x m _ by rw [show ((m : Int) - 1 - ((m : Int) - 1)).toNat = 0 by omega]; rfl)))))))
 ·exact Nat.le_refl _
 intro ⟨i, ln, id, n1⟩ hI ih
 dsimp only at hI ⊢
 refine A7 (st := []) ?_
 refine br ?_ ?_ <;> intro h3_1
 ·refine D6 ⟨by exact L2, by exact L2⟩ ?_
  refine sd (by exact L2) ?_
  refine D3 (es := [[.int _ _]]) j4 kz kb rfl rfl ?_
  (apply eap (s' := 1) (es := [[.int _ _]]) rfl rfl; exact Q0; exact j2; (first | rfl | omega | (rw [List.length_map, hl]; omega) | (rw [List.length_map]; omega)); exact j2; exact kz; exact H5; exact Q6; (first | omega | (focus (simp only [List.length_cons, List.length_nil]; omega)) | exact Nat.le_of_ble_eq_true rfl | ((show (_ + 1) * _ ≤ _); omega) | ((show _ + 1 ≤ _); omega)); (first | omega | (focus (simp only [List.length_cons, List.length_nil]; omega)) | exact Nat.le_of_ble_eq_true rfl | ((show (_ + 1) * _ ≤ _); omega) | ((show _ + 1 ≤ _); omega)))
  refine D6 ⟨by exact L2, by exact L2⟩ ?_
  have hk : ((m : Int) - 1 - (i - 1)).toNat = ((m : Int) - 1 - i).toNat + 1 := by omega
  have hi7 : (m : Int) - 1 - ((((m : Int) - 1 - i).toNat : Nat) : Int) = i := by omega
  have e2 : (topL x m ((m : Int) - 1 - i).toNat).map bV ++ [[.int .u8 (bt8 x i)]] = (topL x m ((m : Int) - 1 - (i - 1)).toNat).map bV := by
   rw [hk, show topL x m (((m : Int) - 1 - i).toNat + 1) = topL x m ((m : Int) - 1 - i).toNat ++ [bt8 x ((m : Int) - 1 - ((((m : Int) - 1 - i).toNat : Nat) : Int))] from rfl, hi7, List.map_append]; rfl
  exact C6 (ih (i - 1, ln + 1, n1 + 1, n1 + 2) ⟨by dsimp only; omega, by dsimp only; omega, by dsimp only; omega⟩ (by dsimp only; omega)) (by (repeat first | exact LE.nil _ | refine LE.unk _ _ ?_ | refine LE.eq _ _ _ rfl ?_)) (by dsimp only; (repeat first | exact B8 | (refine C0 ?_ ?_; (first | exact Q0 | (first | (focus (((simp (disch := omega) only [app, upd, hp, if_pos, if_neg])); exact congrArg (fun z => some (Blk.mk z 1 5)) e2))))))) (Nat.le_refl _)
 ·have e3 : topL x m ((m : Int) - 1 - i).toNat = numL x m := by rw [K9 m hm, show ((m : Int) - 1 - i).toNat = m by omega]
  rw [e3] at *; refine C7 (xs := [.view id 0 ln]) [id] rfl (.cons _ _ _ _ (.one _ _ (N5 (List.mem_singleton.2 rfl) ?_ ?_)) .nil)
  ·exact Q0
  ·rw [A5]; omega
open Go.V
set_option linter.unusedVariables false
set_option linter.unusedSimpArgs false
set_option maxRecDepth 20000
set_option maxHeartbeats 4000000
theorem snapS {h : Heap} {ids : List Nat} {r : Bool} {id m : Nat} {s : ByteArray} (hid : id ∈ ids) (hb : h id = some ⟨s.data.toList.map fun b => [V.int .u8 (b.toNat : Int)], 1, 5⟩) (hm : m = s.size) : Snap h ids r (.view id 0 m) (.sl true ((byt s).map bT)) :=
 N5 hid (hb.trans (by rw [bytRows])) (hm.trans (C4 s).symm)
theorem K4 (x : Int) : numL x 1 = [IntKind.u8.wrap x] := by
 rw [K9 1 (by decide), show topL x 1 1 = [bt8 x 0] from rfl, Y4]
theorem Hs_eq (t : ByteArray) : Hs t = sha t := by with_unfolding_all rfl
theorem s103s (nn : Bool) (s : ByteArray) (h : s.size ≤ 1000000) : Pure En 226 [.one (.sl nn ((byt s).map bT))] [.one (.str (Hs s))] := by
 have := s103 nn (byt s) (by rw [C4]; exact h) (U1 s)
 rw [G6] at this; rw [Hs_eq]; exact this
theorem F8 (x : Int) (m : Nat) : Nm x m = strOw (numL x m) := by with_unfolding_all rfl
theorem s104 (id : Int) : Pure En 230 [.one (.int .i64 id)] [.one (.str (Hs (lit1 ++ Nm id 1)))] := by
 refine Pure.of_ev (st := []) Tryz.func230 rfl kb ?_
 refine D3 (es := [[.int _ _]]) j4 kz kb rfl rfl ?_
 (apply esg j4; (apply E0 rfl; exact Q0; (first | exact Nat.le_refl _ | omega | (simp; omega)); rfl); (intro s e; cases e); exact (show _ = List.map (fun b => [V.int .u8 b]) [IntKind.u8.wrap id] from rfl))
 refine sd (by (first | omega | assumption | (focus (simp; omega)) | (rw [C3]; show (8 : Nat) + 1 ≤ _; omega))) ?_
 refine ebt j5 ?_
 apply T3 [1] (s103s true (lit1 ++ strOw [IntKind.u8.wrap id]) (by rw [ByteArray.size_append, C3]; show 8 + 1 ≤ _; omega)) rfl rfl rfl
 ·refine SnapL.cons _ _ _ _ (.one _ _ (snapS (List.mem_singleton.2 rfl) ?_ rfl)) SnapL.nil
  exact Q0
 rw [F8, K4]; exact E4 rfl rfl
theorem byt_app (a b : ByteArray) : byt (a ++ b) = byt a ++ byt b := by simp [byt]
theorem s91 (id : Int) (nn : Bool) (B : List Int) (hL : B.length ≤ 100000) (hB : bytes B) : Pure En 166 [.one (.int .i64 id), .one (.sl nn (B.map bT))] [.one (.str (mk id (strOw B)))] := by
 have e1 : (((Hs (lit1 ++ Nm id 1)).data.toList.map fun b => [V.int .u8 (b.toNat : Int)]).drop 0) ++ ((B.map bT).map fun x => x.map (T.toV false)) = (byt ((Hs (lit1 ++ Nm id 1)) ++ strOw B)).map bV := by
  rw [bytRows, List.drop_zero, rowsBf, byt_app, L8 hB, List.map_append]
 refine Pure.of_ev (st := []) Tryz.func166 rfl kb ?_
 refine C8 (s104 id) rfl rfl rfl ?_
 refine ebt j5 ?_
 (apply eap (s' := 1) rfl rfl; exact Q0; exact j2; (show 0 + (Hs _).size = List.length _; rw [J7]; omega); exact j2; exact kz; rfl; exact (K8 false B); (simp only [List.length_map, E2]; omega); (simp only [List.length_map, E2]; omega))
 apply T3 [1] (s103s true ((Hs (lit1 ++ Nm id 1)) ++ strOw B) (by rw [ByteArray.size_append, E2, C3]; omega)) rfl rfl rfl
 ·refine SnapL.cons _ _ _ _ (.one _ _ (N5 (List.mem_singleton.2 rfl) ?_ ?_)) SnapL.nil
  ·(first | ((simp (disch := omega) only [↓app0, ↓appC, ↓updS, ↓updN, ↓hpS, ↓hpN]); exact congrArg (fun z => some (Blk.mk z 1 5)) e1))
  ·rw [C4, ByteArray.size_append, C3, List.length_map, List.length_map]
 refine sd ⟨by (first | omega | assumption | (rw [E2]; omega) | (show (8 : Int) ≤ ((Hs _).size : Int); rw [E2]; omega)), by (first | omega | assumption | (rw [E2]; omega) | (show (8 : Int) ≤ ((Hs _).size : Int); rw [E2]; omega)), by (first | omega | assumption | (rw [E2]; omega) | (show (8 : Int) ≤ ((Hs _).size : Int); rw [E2]; omega))⟩ ?_
 exact E4 rfl rfl
open Go.V
set_option linter.unusedVariables false
set_option linter.unusedSimpArgs false
set_option maxRecDepth 20000
set_option maxHeartbeats 4000000
noncomputable def bare (m : Msg) : ByteArray := Nm m.kd 1 ++ Nm m.vw 1 ++ Nm m.sq 1 ++ Nm m.fr 1 ++ Nm m.dg.size 1 ++ m.dg ++ Nm m.bd.size 2 ++ m.bd
theorem bare_size (m : Msg) : (bare m).size = 7 + m.dg.size + m.bd.size := by unfold bare; simp only [ByteArray.size_append, A6]; omega
theorem Msg.OK.dz {m : Msg} (h : m.OK) : m.dg.size ≤ 32 := by
 have e := h.2.2.2.2.2
 split at e
 ·omega
 ·rw [e.2]; exact Nat.zero_le _
def litB : ByteArray := ⟨#[98, 97, 116, 99, 104]⟩
noncomputable def dgB (b : ByteArray) : ByteArray := Hs (litB ++ b)
def litC : ByteArray := ⟨#[99, 108, 111, 99, 107]⟩
noncomputable def rdM (fr vl : Int) : ByteArray := mk fr (litC ++ Nm vl 4)
noncomputable instance dcSg (n : Int) (m : Msg) : Decidable (nodes n ∧ sgd mk bare n m) := Classical.propDecidable _
theorem s138 (m : Msg) (hd : m.dg.size ≤ 1000) (hb : m.bd.size ≤ 20000) : Pure En 125 [.agg m.T] [.one (.str (bare m))] := by
 refine Pure.of_ev (st := []) Tryz.func125 rfl kb ?_
 refine A4 ?_
 refine C8 (q37 _ 1 kb) rfl rfl rfl ?_
 refine A4 ?_
 refine C8 (q37 _ 1 kb) rfl rfl rfl ?_
 refine sd (by (simp only [ByteArray.size_append, A6]; omega)) ?_
 refine A4 ?_
 refine C8 (q37 _ 1 kb) rfl rfl rfl ?_
 refine sd (by (simp only [ByteArray.size_append, A6]; omega)) ?_
 refine A4 ?_
 refine C8 (q37 _ 1 kb) rfl rfl rfl ?_
 refine sd (by (simp only [ByteArray.size_append, A6]; omega)) ?_
 refine A4 ?_
 refine C8 (q37 _ 1 kb) rfl rfl rfl ?_
 refine sd (by (simp only [ByteArray.size_append, A6]; omega)) ?_
 refine A4 ?_
 refine sd (by (simp only [ByteArray.size_append, A6]; omega)) ?_
 refine A4 ?_
 refine C8 (q37 _ 2 kb) rfl rfl rfl ?_
 refine sd (by (simp only [ByteArray.size_append, A6]; omega)) ?_
 refine A4 ?_
 refine sd (by (simp only [ByteArray.size_append, A6]; omega)) ?_
 exact E4 rfl rfl
theorem m137 (id : Int) (t : ByteArray) (ht : t.size ≤ 900000) : Pure En 124 [.one (.int .i64 id), .one (.str t)] [.one (.str (mk id t))] := by
 refine Pure.of_ev (st := []) Tryz.func124 rfl kb ?_
 refine C8 (q37 id 1 kb) rfl rfl rfl ?_
 refine sd (by exact Q42) ?_
 refine C8 (q45 (lit1 ++ Nm id 1) (by rw [ByteArray.size_append, A6]; show 8 + 1 ≤ _; omega)) rfl rfl rfl ?_
 refine sd (by exact Q42) ?_
 refine C8 (q45 (Hs (lit1 ++ Nm id 1) ++ t) (by rw [ByteArray.size_append, E2]; omega)) rfl rfl rfl ?_
 refine sd ⟨by exact Q42, by exact Q42, by exact Q42⟩ ?_
 exact E4 rfl rfl
theorem s159 (b : ByteArray) (hb : b.size ≤ 900000) : Pure En 159 [.one (.str b)] [.one (.str (dgB b))] := by
 refine Pure.of_ev (st := []) Tryz.func159 rfl kb ?_
 refine sd (by (first | omega | (show 5 + _ ≤ _; omega))) ?_
 refine C8 (q45 (litB ++ b) (by rw [ByteArray.size_append]; show 5 + _ ≤ _; omega)) rfl rfl rfl ?_
 exact E4 rfl rfl
theorem s276 (fr vl : Int) : Pure En 276 [.one (.int .i64 fr), .one (.int .i64 vl)] [.one (.str (rdM fr vl))] := by
 refine Pure.of_ev (st := []) Tryz.func276 rfl kb ?_
 refine C8 (q37 _ 4 kb) rfl rfl rfl ?_
 refine sd (by (first | omega | (rw [A6]; show 5 + 4 ≤ _; omega))) ?_
 refine C8 (m137 fr (litC ++ Nm vl 4) (by rw [ByteArray.size_append, A6]; show 5 + 4 ≤ _; omega)) rfl rfl rfl ?_
 exact E4 rfl rfl
theorem s55 (n : Int) (m : Msg) : Pure En 50 [.one (.int .i64 n), .agg m.T] [.one (.bool (decide (nodes n ∧ sgd mk bare n m)))] := by
 refine Pure.of_ev (st := []) Tryz.func50 rfl kb ?_
 refine B6 (p22 n) rfl j2 ?_ ?_ <;> intro h1_1
 ·(apply D2 (vs := [.int _ _, .int _ _, .int _ _, .int _ _, .str _, .str _, .str _]) j2; exact Q0; rfl; rfl; exact kb; rfl)
  refine B6 (s136 m) rfl j2 ?_ ?_ <;> intro h1_4
  ·refine A4 ?_
   refine br ?_ ?_ <;> intro h1_10
   ·refine A4 ?_
    refine A4 ?_
    (apply D2 (vs := [.int _ _, .int _ _, .int _ _, .int _ _, .str _, .str _, .str _]) j2; exact Q0; rfl; rfl; exact kb; rfl)
    refine C8 (s138 m (by have := h1_4.dz; omega) h1_4.2.2.2.2.1) rfl rfl rfl ?_
    refine C8 (m137 m.fr (bare m) (by rw [bare_size]; have := h1_4.dz; have := h1_4.2.2.2.2.1; omega)) rfl rfl rfl ?_
    refine br ?_ ?_ <;> intro h1_20
    ·first
     | (refine B4 rfl ?_; exact ⟨by assumption, by assumption, by assumption, by assumption⟩)
     | (refine B3 rfl ?_; rintro ⟨q1, q2, q3, q4⟩; first | exact absurd q1 (by assumption) | exact absurd q2 (by assumption) | exact absurd q3 (by assumption) | exact absurd q4 (by assumption))
    ·first
     | (refine B4 rfl ?_; exact ⟨by assumption, by assumption, by assumption, by assumption⟩)
     | (refine B3 rfl ?_; rintro ⟨q1, q2, q3, q4⟩; first | exact absurd q1 (by assumption) | exact absurd q2 (by assumption) | exact absurd q3 (by assumption) | exact absurd q4 (by assumption))
   ·first
    | (refine B4 rfl ?_; exact ⟨by assumption, by assumption, by assumption, by assumption⟩)
    | (refine B3 rfl ?_; rintro ⟨q1, q2, q3, q4⟩; first | exact absurd q1 (by assumption) | exact absurd q2 (by assumption) | exact absurd q3 (by assumption) | exact absurd q4 (by assumption))
  ·first
   | (refine B4 rfl ?_; exact ⟨by assumption, by assumption, by assumption, by assumption⟩)
   | (refine B3 rfl ?_; rintro ⟨q1, q2, q3, q4⟩; first | exact absurd q1 (by assumption) | exact absurd q2 (by assumption) | exact absurd q3 (by assumption) | exact absurd q4 (by assumption))
 ·first
  | (refine B4 rfl ?_; exact ⟨by assumption, by assumption, by assumption, by assumption⟩)
  | (refine B3 rfl ?_; rintro ⟨q1, q2, q3, q4⟩; first | exact absurd q1 (by assumption) | exact absurd q2 (by assumption) | exact absurd q3 (by assumption) | exact absurd q4 (by assumption))
open Go Go.V
set_option linter.unusedVariables false
set_option linter.unusedSimpArgs false
set_option maxRecDepth 20000
theorem J8 (a b : ByteArray) : (a ++ b).data.toList = a.data.toList ++ b.data.toList := by simp
theorem E3 (a : ByteArray) : a.data.toList.length = a.size := by simp
theorem bt_app_l {a b : ByteArray} {i : Nat} (h : i < a.size) : bt (a ++ b) i = bt a i := by
 unfold bt
 rw [J8, List.getElem?_append_left (by rw [E3]; exact h)]
theorem bt_app_r (a b : ByteArray) (i : Nat) : bt (a ++ b) (a.size + i) = bt b i := by
 unfold bt
 rw [J8, List.getElem?_append_right (by rw [E3]; omega), E3, show a.size + i - a.size = i by omega]
theorem H6 {a b : ByteArray} {o : Nat} : ∀ {k : Nat}, o + k ≤ a.size → num (a ++ b) o k = num a o k
 | 0, _ => rfl
 | k + 1, h => by unfold num; rw [H6 (by omega), bt_app_l (by omega)]
theorem num_app_r (a b : ByteArray) (o : Nat) : ∀ k : Nat, num (a ++ b) (a.size + o) k = num b o k
 | 0 => rfl
 | k + 1 => by unfold num; rw [num_app_r a b o k, Nat.add_assoc, bt_app_r]
theorem E5 (a m c : ByteArray) {o k : Nat} (ho : a.size = o) (hm : m.size = k) : num (a ++ m ++ c) o k = num m 0 k := by
 subst ho; subst hm
 rw [H6 (by rw [ByteArray.size_append]; omega)]
 exact num_app_r a m 0 m.size
theorem ba_ext {a b : ByteArray} (h : a.data.toList = b.data.toList) : a = b := by
 cases a; cases b; congr 1; exact Array.toList_inj.1 h
theorem S4 (a m c : ByteArray) {o e : Nat} (ho : a.size = o) (he : a.size + m.size = e) : (a ++ m ++ c).extract o e = m := by
 subst ho; subst he
 apply ba_ext
 rw [ByteArray.data_extract, Array.toList_extract, List.extract_eq_take_drop, J8, J8, List.append_assoc, List.drop_append_of_le_length (by rw [E3]; exact Nat.le_refl _), List.drop_of_length_le (by rw [E3]; exact Nat.le_refl _), List.nil_append, List.take_append_of_le_length (by rw [E3]; omega), List.take_of_length_le (by rw [E3]; omega)]
theorem ext_end (a m : ByteArray) {o e : Nat} (ho : a.size = o) (he : a.size + m.size = e) : (a ++ m).extract o e = m := by
 have := S4 a m ⟨#[]⟩ ho he
 rwa [show a ++ m ++ (⟨#[]⟩ : ByteArray) = a ++ m from ByteArray.append_empty] at this
theorem num_strOf1 (x : Int) (h : 0 ≤ x ∧ x < 256) : bt (strOw [IntKind.u8.wrap x]) 0 = x := by
 unfold bt
 have e := L8 (l := [IntKind.u8.wrap x]) (by
  intro b hb
  rw [List.mem_singleton] at hb
  subst hb
  rw [show IntKind.u8.wrap x = x from by simp [IntKind.wrap, IntKind.bits, IntKind.signed]; omega]
  exact h)
 have e2 : byt (strOw [IntKind.u8.wrap x]) = [x] := by rw [e, show IntKind.u8.wrap x = x from by simp [IntKind.wrap, IntKind.bits, IntKind.signed]; omega]
 unfold byt at e2
 cases hq : (strOw [IntKind.u8.wrap x]).data.toList with
 | nil => rw [hq] at e2; cases e2
 | cons c r => rw [hq] at e2; simp at e2; simp [e2.1]
theorem Nm_succ (x : Int) (k : Nat) : Nm x (k + 1) = Nm (x / 256) k ++ strOw [IntKind.u8.wrap x] := by
 unfold Nm
 rw [L7, B5, sh8_eq, Int.fdiv_eq_ediv_of_nonneg _ (by decide)]
theorem u8_mod (x : Int) : IntKind.u8.wrap x = IntKind.u8.wrap (x % 256) := by simp [IntKind.wrap, IntKind.bits, IntKind.signed]
theorem num_Nm : ∀ (k : Nat) (x : Int), 0 ≤ x → x < 256 ^ k → num (Nm x k) 0 k = x
 | 0, x, h0, h1 => by
  rw [Int.pow_zero] at h1
  show (0 : Int) = x
  omega
 | k + 1, x, h0, h1 => by
  have ih := num_Nm k (x / 256) (by omega) (by rw [Int.pow_succ] at h1; omega)
  rw [Nm_succ]
  show num (Nm (x / 256) k ++ strOw [IntKind.u8.wrap x]) 0 k * 256 + bt (Nm (x / 256) k ++ strOw [IntKind.u8.wrap x]) (0 + k) = x
  have e := bt_app_r (Nm (x / 256) k) (strOw [IntKind.u8.wrap x]) 0
  rw [A6, Nat.add_zero] at e
  rw [H6 (by rw [A6]; omega), ih, Nat.zero_add, e, u8_mod, num_strOf1 _ (by omega)]
  omega
theorem F7 {x : Int} (h : 0 ≤ x ∧ x ≤ 255) : num (Nm x 1) 0 1 = x := num_Nm 1 x h.1 (by have := h.2; omega)
theorem W7 {x : Int} (h : 0 ≤ x ∧ x ≤ 65535) : num (Nm x 2) 0 2 = x := num_Nm 2 x h.1 (by have := h.2; omega)
theorem num_Nm4 {x : Int} (h : 0 ≤ x ∧ x ≤ 4294967295) : num (Nm x 4) 0 4 = x := num_Nm 4 x h.1 (by have := h.2; omega)
noncomputable def rqW (r : Rq) : ByteArray := Nm r.cl 1 ++ Nm r.st 2 ++ Nm r.kd 1 ++ Nm r.le 2 ++ Nm r.nm.size 1 ++ r.nm
theorem rqW_size (r : Rq) : (rqW r).size = 7 + r.nm.size := by unfold rqW; simp only [ByteArray.size_append, A6]
theorem rqW_at {p A : ByteArray} {o : Nat} {r : Rq} (hp : p = A ++ rqW r) (ho : A.size = o) (h : r.OK) : rqL p o ∧ rqC p o = r := by
 obtain ⟨h1, h2, h3, h4, h5, h6⟩ := h
 have hz : r.nm.size ≤ 255 := by have := h5.1; omega
 have q0 : p = A ++ Nm r.cl 1 ++ (Nm r.st 2 ++ Nm r.kd 1 ++ Nm r.le 2 ++ Nm r.nm.size 1 ++ r.nm) := by rw [hp]; unfold rqW; simp only [ByteArray.append_assoc]
 have q1 : p = (A ++ Nm r.cl 1) ++ Nm r.st 2 ++ (Nm r.kd 1 ++ Nm r.le 2 ++ Nm r.nm.size 1 ++ r.nm) := by rw [hp]; unfold rqW; simp only [ByteArray.append_assoc]
 have q2 : p = (A ++ Nm r.cl 1 ++ Nm r.st 2) ++ Nm r.kd 1 ++ (Nm r.le 2 ++ Nm r.nm.size 1 ++ r.nm) := by rw [hp]; unfold rqW; simp only [ByteArray.append_assoc]
 have q3 : p = (A ++ Nm r.cl 1 ++ Nm r.st 2 ++ Nm r.kd 1) ++ Nm r.le 2 ++ (Nm r.nm.size 1 ++ r.nm) := by rw [hp]; unfold rqW; simp only [ByteArray.append_assoc]
 have q4 : p = (A ++ Nm r.cl 1 ++ Nm r.st 2 ++ Nm r.kd 1 ++ Nm r.le 2) ++ Nm r.nm.size 1 ++ r.nm := by rw [hp]; unfold rqW; simp only [ByteArray.append_assoc]
 have e0 : num p o 1 = r.cl := by rw [q0, E5 A _ _ ho (A6 ..), F7 h1]
 have e1 : num p (o + 1) 2 = r.st := by rw [q1, E5 _ _ _ (by simp only [ByteArray.size_append, A6]; omega) (A6 ..), W7 ⟨by omega, h2.2⟩]
 have e2 : num p (o + 3) 1 = r.kd := by rw [q2, E5 _ _ _ (by simp only [ByteArray.size_append, A6]; omega) (A6 ..), F7 ⟨by omega, by omega⟩]
 have e3 : num p (o + 4) 2 = r.le := by rw [q3, E5 _ _ _ (by simp only [ByteArray.size_append, A6]; omega) (A6 ..), W7 ⟨by omega, by omega⟩]
 have e4 : num p (o + 6) 1 = (r.nm.size : Int) := by rw [q4, E5 _ _ _ (by simp only [ByteArray.size_append, A6]; omega) (A6 ..), F7 ⟨by omega, by omega⟩]
 have es : p.size = o + 7 + r.nm.size := by rw [hp, ByteArray.size_append, rqW_size]; omega
 have e5 : p.extract (o + 7) p.size = r.nm := by rw [es]; rw [q4]; exact ext_end _ _ (by simp only [ByteArray.size_append, A6]; omega) (by simp only [ByteArray.size_append, A6]; omega)
 refine ⟨⟨by omega, by rw [e4]; omega⟩, ?_⟩
 unfold rqC
 rw [e0, e1, e2, e3, e5]
noncomputable def msW (m : Msg) : ByteArray := bare m ++ m.mc
theorem Y8 {m : Msg} : (msW m).size = 7 + m.dg.size + m.bd.size + m.mc.size := by unfold msW; rw [ByteArray.size_append, bare_size]
theorem msW_ok {m : Msg} (h : m.OK) (hs : 0 ≤ m.sq ∧ m.sq ≤ 255) : msL (msW m) ∧ msC (msW m) = m := by
 obtain ⟨h1, h2, h3, h4, h5, h6⟩ := h
 have hz : m.dg.size ≤ 32 := Msg.OK.dz ⟨h1, h2, h3, h4, h5, h6⟩
 generalize hp : msW m = p
 have q0 : p = Nm m.kd 1 ++ (Nm m.vw 1 ++ Nm m.sq 1 ++ Nm m.fr 1 ++ Nm m.dg.size 1 ++ m.dg ++ Nm m.bd.size 2 ++ m.bd ++ m.mc) := by rw [← hp]; unfold msW bare; simp only [ByteArray.append_assoc]
 have q1 : p = Nm m.kd 1 ++ Nm m.vw 1 ++ (Nm m.sq 1 ++ Nm m.fr 1 ++ Nm m.dg.size 1 ++ m.dg ++ Nm m.bd.size 2 ++ m.bd ++ m.mc) := by rw [← hp]; unfold msW bare; simp only [ByteArray.append_assoc]
 have q2 : p = (Nm m.kd 1 ++ Nm m.vw 1) ++ Nm m.sq 1 ++ (Nm m.fr 1 ++ Nm m.dg.size 1 ++ m.dg ++ Nm m.bd.size 2 ++ m.bd ++ m.mc) := by rw [← hp]; unfold msW bare; simp only [ByteArray.append_assoc]
 have q3 : p = (Nm m.kd 1 ++ Nm m.vw 1 ++ Nm m.sq 1) ++ Nm m.fr 1 ++ (Nm m.dg.size 1 ++ m.dg ++ Nm m.bd.size 2 ++ m.bd ++ m.mc) := by rw [← hp]; unfold msW bare; simp only [ByteArray.append_assoc]
 have q4 : p = (Nm m.kd 1 ++ Nm m.vw 1 ++ Nm m.sq 1 ++ Nm m.fr 1) ++ Nm m.dg.size 1 ++ (m.dg ++ Nm m.bd.size 2 ++ m.bd ++ m.mc) := by rw [← hp]; unfold msW bare; simp only [ByteArray.append_assoc]
 have q5 : p = (Nm m.kd 1 ++ Nm m.vw 1 ++ Nm m.sq 1 ++ Nm m.fr 1 ++ Nm m.dg.size 1) ++ m.dg ++ (Nm m.bd.size 2 ++ m.bd ++ m.mc) := by rw [← hp]; unfold msW bare; simp only [ByteArray.append_assoc]
 have q6 : p = (Nm m.kd 1 ++ Nm m.vw 1 ++ Nm m.sq 1 ++ Nm m.fr 1 ++ Nm m.dg.size 1 ++ m.dg) ++ Nm m.bd.size 2 ++ (m.bd ++ m.mc) := by rw [← hp]; unfold msW bare; simp only [ByteArray.append_assoc]
 have q7 : p = (Nm m.kd 1 ++ Nm m.vw 1 ++ Nm m.sq 1 ++ Nm m.fr 1 ++ Nm m.dg.size 1 ++ m.dg ++ Nm m.bd.size 2) ++ m.bd ++ m.mc := by rw [← hp]; unfold msW bare; simp only [ByteArray.append_assoc]
 have z : p.size = 7 + m.dg.size + m.bd.size + 8 := by rw [← hp, Y8, h4]
 have e0 : num p 0 1 = m.kd := by
  have : num p 0 1 = num (Nm m.kd 1) 0 1 := by rw [q0]; exact H6 (by rw [A6]; omega)
  rw [this, F7 ⟨by omega, by omega⟩]
 have e1 : num p 1 1 = m.vw := by rw [q1, E5 _ _ _ (A6 ..) (A6 ..), F7 ⟨by omega, by omega⟩]
 have e2 : num p 2 1 = m.sq := by rw [q2, E5 _ _ _ (by simp only [ByteArray.size_append, A6]) (A6 ..), F7 hs]
 have e3 : num p 3 1 = m.fr := by rw [q3, E5 _ _ _ (by simp only [ByteArray.size_append, A6]) (A6 ..), F7 ⟨by omega, by omega⟩]
 have e4 : num p 4 1 = (m.dg.size : Int) := by rw [q4, E5 _ _ _ (by simp only [ByteArray.size_append, A6]) (A6 ..), F7 ⟨by omega, by omega⟩]
 have ed : msD p = 5 + m.dg.size := by unfold msD; rw [e4]; omega
 have e5 : num p (msD p) 2 = (m.bd.size : Int) := by rw [ed, q6, E5 _ _ _ (by simp only [ByteArray.size_append, A6]) (A6 ..), W7 ⟨by omega, by omega⟩]
 have ee : msE p = 7 + m.dg.size + m.bd.size := by unfold msE; rw [e5, ed]; omega
 have x1 : p.extract 5 (msD p) = m.dg := by rw [ed, q5]; exact S4 _ _ _ (by simp only [ByteArray.size_append, A6]) (by simp only [ByteArray.size_append, A6])
 have x2 : p.extract (msD p + 2) (msE p) = m.bd := by rw [ed, ee, q7]; exact S4 _ _ _ (by simp only [ByteArray.size_append, A6]) (by simp only [ByteArray.size_append, A6]; omega)
 have x3 : p.extract (msE p) p.size = m.mc := by rw [ee, z, q7]; exact ext_end _ _ (by simp only [ByteArray.size_append, A6]; omega) (by simp only [ByteArray.size_append, A6]; omega)
 refine ⟨⟨by omega, by rw [ed]; omega, by rw [ee]; omega⟩, ?_⟩
 unfold msC
 rw [e0, e1, e2, e3, x1, x2, x3]
theorem Msg.OK.sq {m : Msg} (h : m.OK) : 0 ≤ m.sq ∧ m.sq ≤ 255 := by
 have e := h.2.2.2.2.2
 split at e <;> omega
theorem msW_L {m : Msg} (h : m.OK) : msL (msW m) := (msW_ok h h.sq).1
theorem msW_C {m : Msg} (h : m.OK) : msC (msW m) = m := (msW_ok h h.sq).2
noncomputable def itW : List ByteArray → ByteArray
 | [] => ⟨#[]⟩
 | s :: r => Nm s.size 2 ++ s ++ itW r
theorem Y9 (a : ByteArray) : (⟨#[]⟩ : ByteArray) ++ a = a := ByteArray.empty_append
theorem W9 : ∀ (a b : List ByteArray), itW (a ++ b) = itW a ++ itW b
 | [], b => (Y9 _).symm
 | s :: r, b => by simp only [List.cons_append, itW, W9 r b, ByteArray.append_assoc]
theorem itW_one (s : ByteArray) : itW [s] = Nm s.size 2 ++ s := by show Nm s.size 2 ++ s ++ (⟨#[]⟩ : ByteArray) = _; exact ByteArray.append_empty
noncomputable def lsW (l : List ByteArray) : ByteArray := Nm l.length 1 ++ itW l
theorem sg_lsW {l : List ByteArray} (hs : ∀ s ∈ l, s.size ≤ 65535) : ∀ (i : Nat), i ≤ l.length → sg (lsW l) i = some (l.take i, 1 + (itW (l.take i)).size)
 | 0, _ => by rw [List.take_zero]; rfl
 | i + 1, h => by
  have ih := sg_lsW hs i (by omega)
  have hi : i < l.length := h
  have ht : l.take (i + 1) = l.take i ++ [l[i]] := by rw [List.take_add_one]; simp [hi]
  have hd : l = l.take i ++ [l[i]] ++ l.drop (i + 1) := by rw [← ht, List.take_append_drop]
  have hp : lsW l = (Nm l.length 1 ++ itW (l.take i)) ++ Nm (l[i]).size 2 ++ (l[i] ++ itW (l.drop (i + 1))) := by
   show Nm l.length 1 ++ itW l = _
   conv => lhs; rw [hd]
   rw [W9, W9, itW_one]; simp only [ByteArray.append_assoc]
   rw [← hd]
  have hp2 : lsW l = (Nm l.length 1 ++ itW (l.take i) ++ Nm (l[i]).size 2) ++ l[i] ++ itW (l.drop (i + 1)) := by rw [hp]; simp only [ByteArray.append_assoc]
  have hz : (l[i]).size ≤ 65535 := hs _ (List.getElem_mem hi)
  have en : num (lsW l) (1 + (itW (l.take i)).size) 2 = ((l[i]).size : Int) := by
   rw [hp, E5 _ _ _ (by simp only [ByteArray.size_append, A6]) (A6 ..), W7 ⟨by omega, by omega⟩]
  have es : (lsW l).size = 1 + (itW (l.take i)).size + 2 + (l[i]).size + (itW (l.drop (i + 1))).size := by
   rw [hp2]; simp only [ByteArray.size_append, A6]
  rw [T0 ih (by rw [en]; omega), en]
  have ex : (lsW l).extract (1 + (itW (l.take i)).size + 2) (1 + (itW (l.take i)).size + 2 + ((l[i]).size : Int).toNat) = l[i] := by
   rw [hp2]; exact S4 _ _ _ (by simp only [ByteArray.size_append, A6]) (by simp only [ByteArray.size_append, A6]; omega)
  rw [ex, ht, W9, itW_one]
  simp only [ByteArray.size_append, A6]
  congr 2; omega
theorem lsW_C {l : List ByteArray} (hl : l.length ≤ 100) (hs : short l) : lsC (lsW l) = some l := by
 have h1 : num (lsW l) 0 1 = (l.length : Int) := by
  have : num (lsW l) 0 1 = num (Nm l.length 1) 0 1 := H6 (by rw [A6]; omega)
  rw [this, F7 ⟨by omega, by omega⟩]
 have h2 := sg_lsW (l := l) (fun s h => by have := hs s h; omega) l.length (Nat.le_refl _)
 have h3 : (lsW l).size = 1 + (itW l).size := by unfold lsW; rw [ByteArray.size_append, A6]
 unfold lsC
 rw [h1, if_pos ⟨by omega, by omega⟩, show ((l.length : Int)).toNat = l.length from rfl, h2]
 dsimp only
 rw [List.take_length, if_pos ⟨by omega, hs⟩]
noncomputable def ctW (c : Ct) : ByteArray := lsW (c.bd :: c.ps.map msW)
theorem mss_map : ∀ {L : List Msg}, (∀ m ∈ L, m.OK ∧ m.kd = 2) → mss (L.map msW) = some L
 | [], _ => rfl
 | m :: L, h => by
  have h1 := h m List.mem_cons_self
  have ih := mss_map (L := L) fun x hx => h x (List.mem_cons_of_mem _ hx)
  show (if msL (msW m) ∧ (msC (msW m)).OK ∧ (msC (msW m)).kd = 2 then (mss (L.map msW)).map (msC (msW m) :: ·) else none) = _
  rw [msW_C h1.1, if_pos ⟨msW_L h1.1, h1⟩, ih]; rfl
theorem ctW_C {c : Ct} (hb : c.bd.size ≤ 20000) (hl : c.ps.length ≤ 7) (h : ∀ m ∈ c.ps, m.OK ∧ m.kd = 2) : ctC (ctW c) = some c := by
 unfold ctC ctW
 rw [lsW_C (by rw [List.length_cons, List.length_map]; omega) (fun s hs => by
  rcases List.mem_cons.1 hs with q | q
  ·rw [q]; exact hb
  ·obtain ⟨m, hm, rfl⟩ := List.mem_map.1 q
   have h1 := h m hm
   have h2 := h1.1.dz
   have h3 : m.bd = ⟨#[]⟩ := by
    have e := h1.1.2.2.2.2.2
    rw [if_pos (by omega)] at e
    exact Classical.byContradiction fun q => by have := e.2.2.1 q; omega
   rw [Y8, h3, h1.1.2.2.2.1]
   show 7 + m.dg.size + 0 + 8 ≤ _
   omega)]
 dsimp only
 rw [List.length_map, if_pos hl, mss_map h]; rfl
noncomputable def rgW (a : Rg) : ByteArray := Nm a.fr 1 ++ Nm a.vl 4 ++ a.mc
theorem rgW_size {a : Rg} (h : a.mc.size = 8) : (rgW a).size = 13 := by unfold rgW; simp only [ByteArray.size_append, A6]; omega
noncomputable def rgsW : List Rg → ByteArray
 | [] => ⟨#[]⟩
 | a :: r => rgW a ++ rgsW r
theorem Z0 : ∀ (a b : List Rg), rgsW (a ++ b) = rgsW a ++ rgsW b
 | [], b => (Y9 _).symm
 | s :: r, b => by simp only [List.cons_append, rgsW, Z0 r b, ByteArray.append_assoc]
theorem rgsW_one (a : Rg) : rgsW [a] = rgW a := by show rgW a ++ (⟨#[]⟩ : ByteArray) = _; exact ByteArray.append_empty
theorem L9 : ∀ {L : List Rg}, (∀ a ∈ L, a.mc.size = 8) → (rgsW L).size = 13 * L.length
 | [], _ => rfl
 | a :: L, h => by
  have := L9 (L := L) fun x hx => h x (List.mem_cons_of_mem _ hx)
  show (rgW a ++ rgsW L).size = _
  rw [ByteArray.size_append, this, rgW_size (h a List.mem_cons_self), List.length_cons]; omega
noncomputable def btW (x : Bt) : ByteArray := if x.nl = true then nullT else Nm (1 + (x.rs.length : Int)) 1 ++ rgsW x.rs ++ rqW x.rq
theorem btW_size {x : Bt} (hn : x.nl = false) (hr : ∀ a ∈ x.rs, a.mc.size = 8) : (btW x).size = 8 + 13 * x.rs.length + x.rq.nm.size := by
 unfold btW; rw [if_neg (by rw [hn]; decide)]; simp only [ByteArray.size_append, A6, L9 hr, rqW_size]; omega
theorem btW_C {x : Bt} (h : x.OK) (hn : x.nl = false) : btL (btW x) ∧ btC (btW x) = x ∧ btW x ≠ nullT := by
 unfold Bt.OK at h
 rw [if_neg (by rw [hn]; decide)] at h
 obtain ⟨hq, hl, hr⟩ := h
 have hm : ∀ a ∈ x.rs, a.OK := fun a ha => by
  obtain ⟨i, hi, rfl⟩ := List.getElem_of_mem ha
  have := (hr i hi).1
  rwa [show x.rs.getD i Rg0 = x.rs[i] by simp [hi]] at this
 have hm8 : ∀ a ∈ x.rs, a.mc.size = 8 := fun a ha => (hm a ha).2.2
 have hz := L9 hm8
 generalize hp : btW x = p
 have hp0 : p = Nm (1 + (x.rs.length : Int)) 1 ++ rgsW x.rs ++ rqW x.rq := by rw [← hp]; unfold btW; rw [if_neg (by rw [hn]; decide)]
 have e0 : num p 0 1 = 1 + (x.rs.length : Int) := by
  have : num p 0 1 = num (Nm (1 + (x.rs.length : Int)) 1) 0 1 := by rw [hp0, ByteArray.append_assoc]; exact H6 (by rw [A6]; omega)
  rw [this, F7 ⟨by omega, by omega⟩]
 have en : btN p = x.rs.length := by unfold btN; rw [e0]; omega
 have hs : p.size = 1 + 13 * x.rs.length + (rqW x.rq).size := by rw [hp0]; simp only [ByteArray.size_append, A6, hz]
 obtain ⟨r1, r2⟩ := rqW_at (p := p) (A := Nm (1 + (x.rs.length : Int)) 1 ++ rgsW x.rs) (o := 1 + 13 * x.rs.length) hp0 (by simp only [ByteArray.size_append, A6, hz]) hq
 refine ⟨⟨by omega, by omega, by rw [en]; omega, by rw [en]; exact r1⟩, ?_, fun e => ?_⟩
 ·unfold btC
  rw [en, r2]
  have hrs : (List.range x.rs.length).map (rgC p) = x.rs := by
   refine List.ext_getElem (by simp) fun i h1 h2 => ?_
   have ha := hm x.rs[i] (List.getElem_mem h2)
   have hd : x.rs = x.rs.take i ++ [x.rs[i]] ++ x.rs.drop (i + 1) := by
    have ht : x.rs.take (i + 1) = x.rs.take i ++ [x.rs[i]] := by rw [List.take_add_one]; simp [h2]
    rw [← ht, List.take_append_drop]
   have zi : (rgsW (x.rs.take i)).size = 13 * i := by
    rw [L9 fun a q => hm8 a (List.mem_of_mem_take q), List.length_take]; congr 1; omega
   have hp1 : p = (Nm (1 + (x.rs.length : Int)) 1 ++ rgsW (x.rs.take i)) ++ rgW x.rs[i] ++ (rgsW (x.rs.drop (i + 1)) ++ rqW x.rq) := by
    have hw := congrArg rgsW hd
    rw [Z0, Z0, rgsW_one] at hw
    rw [hp0, hw]
    simp only [ByteArray.append_assoc]
   have g0 : p = (Nm (1 + (x.rs.length : Int)) 1 ++ rgsW (x.rs.take i)) ++ Nm x.rs[i].fr 1 ++ (Nm x.rs[i].vl 4 ++ x.rs[i].mc ++ (rgsW (x.rs.drop (i + 1)) ++ rqW x.rq)) := by rw [hp1]; unfold rgW; simp only [ByteArray.append_assoc]
   have g1 : p = (Nm (1 + (x.rs.length : Int)) 1 ++ rgsW (x.rs.take i) ++ Nm x.rs[i].fr 1) ++ Nm x.rs[i].vl 4 ++ (x.rs[i].mc ++ (rgsW (x.rs.drop (i + 1)) ++ rqW x.rq)) := by rw [hp1]; unfold rgW; simp only [ByteArray.append_assoc]
   have g2 : p = (Nm (1 + (x.rs.length : Int)) 1 ++ rgsW (x.rs.take i) ++ Nm x.rs[i].fr 1 ++ Nm x.rs[i].vl 4) ++ x.rs[i].mc ++ (rgsW (x.rs.drop (i + 1)) ++ rqW x.rq) := by rw [hp1]; unfold rgW; simp only [ByteArray.append_assoc]
   rw [List.getElem_map, List.getElem_range]
   unfold rgC
   have f0 : num p (1 + 13 * i) 1 = x.rs[i].fr := by rw [g0, E5 _ _ _ (by simp only [ByteArray.size_append, A6, zi]) (A6 ..), F7 ⟨by have := ha.1; omega, by have := ha.1; omega⟩]
   have f1 : num p (2 + 13 * i) 4 = x.rs[i].vl := by rw [g1, E5 _ _ _ (by simp only [ByteArray.size_append, A6, zi]; omega) (A6 ..), num_Nm4 ⟨by have := ha.2.1; omega, by have := ha.2.1; omega⟩]
   have f2 : p.extract (6 + 13 * i) (14 + 13 * i) = x.rs[i].mc := by rw [g2]; exact S4 _ _ _ (by simp only [ByteArray.size_append, A6, zi]; omega) (by simp only [ByteArray.size_append, A6, zi, ha.2.2]; omega)
   rw [f0, f1, f2]
  rw [hrs, ← hn]
 ·rw [G3] at e
  rw [e0] at e
  omega
theorem btW_X {x : Bt} (h : x.OK) (hn : x.nl = false) : bOK (btW x) ∧ bX (btW x) = x := by
 obtain ⟨h1, h2, h3⟩ := btW_C h hn
 exact ⟨.inr ⟨h1, by rw [h2]; exact h⟩, by unfold bX; rw [if_neg h3, h2]⟩
theorem btW_body {n : Int} {x : Bt} (hq : x.rq.OK) (hn : x.nl = false) (ht : timeOK rdM n x.rs) (h7 : x.rs.length ≤ 7) : bodyOK rdM n (btW x) := by
 have ok : x.OK := by
  unfold Bt.OK
  rw [if_neg (by rw [hn]; decide)]
  exact ⟨hq, h7, fun i hi => ⟨(ht.2 i hi).1.1, (ht.2 i hi).2⟩⟩
 obtain ⟨h1, h2⟩ := btW_X ok hn
 exact ⟨h1, .inr (by rw [h2]; exact ht)⟩
theorem null_body (n : Int) : bodyOK rdM n nullT := ⟨.inl rfl, .inl (by unfold bX; rw [if_pos rfl]; rfl)⟩
end Go.Proofs.YteifdelnahccjaaGreatDoor
set_option maxRecDepth 20000
namespace Go.Proofs
open Go.Shelf
def Tryz.sortedA_ren : Go.Shelf.Ren := ⟨fun | 6 => 307 | 8 => 318 | 9 => 319 | 11 => 324 | 13 => 326 | 12 => 325 | 23 => 337 | 24 => 338 | 14 => 328 | 15 => 329 | 16 => 330 | 17 => 331 | 18 => 332 | 19 => 333 | 20 => 334 | 21 => 335 | 22 => 336 | 25 => 340 | 26 => 341 | 27 => 342 | 28 => 343 | 29 => 344 | 30 => 345 | 31 => 346 | n => n, fun | 26 => 3 | 28 => 336 | 24 => 39 | 0 => 0 | 3 => 3 | 37 => 293 | 48 => 290 | 50 => 358 | 4 => 4 | 40 => 351 | 39 => 350 | 45 => 203 | 5 => 5 | 9 => 9 | 51 => 360 | 55 => 364 | 57 => 366 | 58 => 181 | 33 => 98 | n => n, fun | n => n⟩
theorem Tryz.sortedA : Go.Proofs.SlLaysZI.n6 Tryz.prog Tryz.sortedA_ren := {
 mixed := by kernel_rfl
 f6 := ⟨Tryz.f307.name, by decide, Tryz.func307.trans (congrArg some (by kernel_rfl))⟩
 f8 := ⟨Tryz.f318.name, by decide, Tryz.func318.trans (congrArg some (by kernel_rfl))⟩
 f11 := ⟨Tryz.f324.name, by decide, Tryz.func324.trans (congrArg some (by kernel_rfl))⟩
 t0 := Tryz.underlying0
 a0 := Tryz.isAgg0
 z0 := Tryz.sizeOf0
 v0 := Tryz.zeroValue0
 t24 := Tryz.underlying39
 a24 := Tryz.isAgg39
 z24 := Tryz.sizeOf39
 v24 := Tryz.zeroValue39
 t26 := Tryz.underlying3
 a26 := Tryz.isAgg3
 z26 := Tryz.sizeOf3
 v26 := Tryz.zeroValue3
 t28 := Tryz.underlying336
 a28 := Tryz.isAgg336
 z28 := Tryz.sizeOf336
 v28 := Tryz.zeroValue336
 i26 := by kernel_rfl }
def Tryz.sortA_ren : Go.Shelf.Ren := ⟨fun | 5 => 319 | 8 => 326 | 7 => 325 | 19 => 337 | 20 => 338 | 10 => 328 | 11 => 329 | 12 => 330 | 13 => 331 | 14 => 332 | 15 => 333 | 16 => 334 | 17 => 335 | 18 => 336 | 30 => 340 | 31 => 341 | 32 => 342 | 33 => 343 | 34 => 344 | 35 => 345 | 40 => 346 | n => n, fun | 23 => 39 | 25 => 3 | 3 => 3 | 32 => 293 | 22 => 39 | 0 => 0 | 44 => 290 | 46 => 358 | 4 => 4 | 36 => 351 | 35 => 350 | 41 => 203 | 5 => 5 | 9 => 9 | 53 => 360 | 57 => 364 | 63 => 366 | 64 => 181 | n => n, fun | n => n⟩
theorem Tryz.sortA : Go.Proofs.SlLaysM.n5 Tryz.prog Tryz.sortA_ren := {
 mixed := by kernel_rfl
 f5 := ⟨Tryz.f319.name, by decide, Tryz.func319.trans (congrArg some (by kernel_rfl))⟩
 f7 := ⟨Tryz.f325.name, by decide, Tryz.func325.trans (congrArg some (by kernel_rfl))⟩
 f8 := Tryz.func326.trans (congrArg some (by kernel_rfl))
 f10 := ⟨Tryz.f328.name, by decide, Tryz.func328.trans (congrArg some (by kernel_rfl))⟩
 f11 := ⟨Tryz.f329.name, by decide, Tryz.func329.trans (congrArg some (by kernel_rfl))⟩
 f12 := ⟨Tryz.f330.name, by decide, Tryz.func330.trans (congrArg some (by kernel_rfl))⟩
 f13 := ⟨Tryz.f331.name, by decide, Tryz.func331.trans (congrArg some (by kernel_rfl))⟩
 f14 := ⟨Tryz.f332.name, by decide, Tryz.func332.trans (congrArg some (by kernel_rfl))⟩
 f15 := ⟨Tryz.f333.name, by decide, Tryz.func333.trans (congrArg some (by kernel_rfl))⟩
 f16 := ⟨Tryz.f334.name, by decide, Tryz.func334.trans (congrArg some (by kernel_rfl))⟩
 f17 := ⟨Tryz.f335.name, by decide, Tryz.func335.trans (congrArg some (by kernel_rfl))⟩
 f18 := ⟨Tryz.f336.name, by decide, Tryz.func336.trans (congrArg some (by kernel_rfl))⟩
 f19 := Tryz.func337.trans (congrArg some (by kernel_rfl))
 f20 := Tryz.func338.trans (congrArg some (by kernel_rfl))
 f30 := ⟨Tryz.f340.name, by decide, Tryz.func340.trans (congrArg some (by kernel_rfl))⟩
 f31 := Tryz.func341.trans (congrArg some (by kernel_rfl))
 f32 := Tryz.func342.trans (congrArg some (by kernel_rfl))
 f33 := ⟨Tryz.f343.name, by decide, Tryz.func343.trans (congrArg some (by kernel_rfl))⟩
 f34 := ⟨Tryz.f344.name, by decide, Tryz.func344.trans (congrArg some (by kernel_rfl))⟩
 f35 := ⟨Tryz.f345.name, by decide, Tryz.func345.trans (congrArg some (by kernel_rfl))⟩
 f40 := ⟨Tryz.f346.name, by decide, Tryz.func346.trans (congrArg some (by kernel_rfl))⟩
 t0 := Tryz.underlying0
 a0 := Tryz.isAgg0
 z0 := Tryz.sizeOf0
 v0 := Tryz.zeroValue0
 t3 := Tryz.underlying3
 a3 := Tryz.isAgg3
 z3 := Tryz.sizeOf3
 v3 := Tryz.zeroValue3
 t4 := Tryz.underlying4
 a4 := Tryz.isAgg4
 z4 := Tryz.sizeOf4
 v4 := Tryz.zeroValue4
 t5 := Tryz.underlying5
 a5 := Tryz.isAgg5
 z5 := Tryz.sizeOf5
 v5 := Tryz.zeroValue5
 t9 := Tryz.underlying9
 a9 := Tryz.isAgg9
 z9 := Tryz.sizeOf9
 v9 := Tryz.zeroValue9
 t22 := Tryz.underlying39
 a22 := Tryz.isAgg39
 z22 := Tryz.sizeOf39
 v22 := Tryz.zeroValue39
 t23 := Tryz.underlying39
 a23 := Tryz.isAgg39
 z23 := Tryz.sizeOf39
 v23 := Tryz.zeroValue39
 t25 := Tryz.underlying3
 a25 := Tryz.isAgg3
 z25 := Tryz.sizeOf3
 v25 := Tryz.zeroValue3
 t32 := Tryz.underlying293
 a32 := Tryz.isAgg293
 z32 := Tryz.sizeOf293
 v32 := Tryz.zeroValue293
 t35 := Tryz.underlying350
 a35 := Tryz.isAgg350
 z35 := Tryz.sizeOf350
 v35 := Tryz.zeroValue350
 t36 := Tryz.underlying351
 a36 := Tryz.isAgg351
 z36 := Tryz.sizeOf351
 v36 := Tryz.zeroValue351
 t41 := Tryz.underlying203
 a41 := Tryz.isAgg203
 z41 := Tryz.sizeOf203
 v41 := Tryz.zeroValue203
 t44 := Tryz.underlying290
 a44 := Tryz.isAgg290
 z44 := Tryz.sizeOf290
 v44 := Tryz.zeroValue290
 t46 := Tryz.underlying358
 a46 := Tryz.isAgg358
 z46 := Tryz.sizeOf358
 v46 := Tryz.zeroValue358
 t53 := Tryz.underlying360
 a53 := Tryz.isAgg360
 z53 := Tryz.sizeOf360
 v53 := Tryz.zeroValue360
 t57 := Tryz.underlying364
 a57 := Tryz.isAgg364
 z57 := Tryz.sizeOf364
 v57 := Tryz.zeroValue364
 t63 := Tryz.underlying366
 a63 := Tryz.isAgg366
 z63 := Tryz.sizeOf366
 v63 := Tryz.zeroValue366
 t64 := Tryz.underlying181
 a64 := Tryz.isAgg181
 z64 := Tryz.sizeOf181
 v64 := Tryz.zeroValue181 }
end Go.Proofs
namespace Go.Proofs
open Go.RowKit Go.Maps Go.Sort Go.Shelf
set_option linter.unusedVariables false
theorem Tryz.sortsA (m : Nat) : AnyZI.SortsIn Tryz.prog Tryz.sortedA_ren Fence.wide m :=
 ⟨fun blk off cap ss W hH hblk hsz => callsIn_wide.2 (AnyM.slices_Sort_int Tryz.sortA blk off cap ss W hH hblk hsz),
  fun p cap W => callsIn_wide.2 (AnyM.slices_Sort_int_none Tryz.sortA p cap W)⟩
def Tryz.upto (f : Nat → Int) (k : Nat) : List Int := (List.range k).map f
theorem Tryz.upto_succ (f : Nat → Int) (k : Nat) : Tryz.upto f (k + 1) = Tryz.upto f k ++ [f k] := by simp [Tryz.upto, List.range_succ]
theorem Tryz.upto_length (f : Nat → Int) (k : Nat) : (Tryz.upto f k).length = k := by simp [Tryz.upto]
set_option maxRecDepth 100000 in
set_option maxHeartbeats 2000000 in
theorem Tryz.vals1_in (n : Nat) (hn : 1 ≤ n) (l Bs n₀ b off len cap : Nat) (zs : List Int) (w0 : World) (hreach : len * 8 ≤ 140737488351232) (hb : b < n₀) (J : List Int → World → Prop)
  (hJB : ∀ ss W, J ss W → Below n₀ w0 W) (hc : ∀ j, j < len → w0.cell? ⟨b, off + j, none⟩ = some (.int .i64 (zs[j]?.getD 0)))
  (hY : ∀ pre x W, J pre W → pre.length < len → YieldAt Fence.wide (n - 1) Tryz.prog l #[.int .i64 x] W fun e W' => e = .returned (.bool true) ∧ J (pre ++ [x]) W' ∧ KeepsWalks W W')
  (W : World) (hBs : W.cell? ⟨Bs, 0, none⟩ = some (.slice (some ⟨b, off, none⟩) len cap)) (h0 : J [] W) :
  CallsIn Fence.wide n Tryz.prog 320 #[.func (.yield l) #[] #[], .pointer (some ⟨Bs, 0, none⟩)] W fun e W' => (∃ v, e = .returned v) ∧ J (Tryz.upto (fun j => zs[j]?.getD 0) len) W' := by
 refine callsIn_of_wp Tryz.func320 rfl trivial ?_ rfl
 simp only [Tryz.ntmps320, List.size_toArray, List.length_cons, List.length_nil, Nat.reduceAdd, Nat.reduceSub, Array.replicate_succ, Array.replicate_zero, List.push_toArray, List.append_toArray, List.nil_append, List.cons_append]
 gi_wp2
 gi_loopw [7] (fun i wr => ∃ k : Nat, k ≤ len ∧ i = .int .i64 k ∧ J (Tryz.upto (fun j => zs[j]?.getD 0) k) wr)
  (fun i _ => len - (intOf i).toNat)
 case atStart => exact ⟨0, Nat.zero_le _, rfl, h0⟩
 case round =>
  obtain ⟨k, hk, rfl, hJs⟩ := hrel
  have hnx := hJB _ _ hJs
  have hcx : k < len → wr.cell? ⟨b, off + k, none⟩ = some (.int .i64 (zs[k]?.getD 0)) := fun h => (hnx.cell (p := ⟨b, off + k, none⟩) hb).trans (hc k h)
  by_cases hlt : k < len
  ·obtain ⟨fn, tmps, assign, body, hy, hR⟩ := hY _ (zs[k]?.getD 0) wr hJs (by rw [Tryz.upto_length]; exact hlt)
   have hcx' := hcx hlt
   gi_wp2
   refine hR.mono ?_
   rintro e W3 ⟨rfl, hJ3, hk3⟩
   gi_wp2
   go_roundw
   case rel => exact ⟨k + 1, by omega, by simp, by rw [Tryz.upto_succ]; exact hJ3⟩
   case measure => simp [intOf]; omega
  ·obtain rfl : k = len := by omega
   gi_wp2
   go_end0
   exact ⟨⟨_, rfl⟩, hJs⟩
theorem Tryz.upto_all (zs : List Int) : Tryz.upto (fun j => zs[j]?.getD 0) zs.length = zs := by
 apply List.ext_getElem
 ·simp [Tryz.upto]
 ·intro i h1 h2
  simp [Tryz.upto, h2]
set_option maxRecDepth 100000 in
set_option maxHeartbeats 2000000 in
theorem Tryz.appendVals_in (n : Nat) (hn : 2 ≤ n) (Bs b off cap : Nat) (zs : List Int) (hN : zs.length ≤ maxLen) (hNb : zs.length * 8 ≤ 140737488351232) (w : World)
  (hBs : w.cell? ⟨Bs, 0, none⟩ = some (.slice (some ⟨b, off, none⟩) zs.length cap)) (hBl : Bs < w.heap.size) (hb : b < w.heap.size) (hc : ∀ j, j < zs.length → w.cell? ⟨b, off + j, none⟩ = some (.int .i64 (zs[j]?.getD 0))) :
  CallsIn Fence.wide n Tryz.prog 324 #[.slice none 0 0, .func (.func 320) #[] #[.pointer (some ⟨Bs, 0, none⟩)]] w fun e w' => ∃ (v : Value), e = .returned v ∧ w'.ownsRow w.heap.size 3 1 v zs.length (zs.map encZ) ∧ (v = .slice none 0 0 ↔ zs = []) ∧ Below w.heap.size w w' := by
 have h1 : 1 ≤ n := by omega
 refine callsIn_of_wp_marks Tryz.func324 rfl trivial ?_ rfl
 simp only [Tryz.ntmps324, List.size_toArray, List.length_cons, List.length_nil, Nat.reduceAdd, Nat.reduceSub, Array.replicate_succ, Array.replicate_zero, List.push_toArray, List.append_toArray, List.nil_append, List.cons_append]
 gi_wp2
 refine wpIn_rangeFunc ?_
 intro fn hfn
 rw [show Fence.wide.round = none from rfl]
 obtain ⟨W0, hW0⟩ : ∃ W0, w.alloc (.cells #[.slice none 0 0] 39) = W0 := ⟨_, rfl⟩
 have hs0 : W0.heap.size = w.heap.size + 1 := by rw [← hW0]; simp
 have hv0 : W0.heap[w.heap.size]? = some (.cells #[.slice none 0 0] 39 (0, 0)) := by rw [← hW0]; exact World.alloc_heap_new w _
 have hb0 : Below w.heap.size w W0 := by rw [← hW0]; exact (Below.refl _ w).alloc (Nat.le_refl _) _
 rw [hW0]
 obtain ⟨sv, hsv⟩ : ∃ sv, Value.func (.func 320) #[] #[.pointer (some ⟨Bs, 0, none⟩)] = sv := ⟨_, rfl⟩
 obtain ⟨W1, hW1⟩ : ∃ W1, (W0.alloc (.deferred (some []))).alloc (.loop (AnyZI.apRec Tryz.sortedA_ren fn sv w.heap.size W0.heap.size .ready none)) = W1 := ⟨_, rfl⟩
 have hold : ∀ k, k < W0.heap.size → W1.heap[k]? = W0.heap[k]? := fun k hk => by
  rw [← hW1]; exact (Below.heap_alloc _ _ k (by simp; omega)).trans (Below.heap_alloc _ _ k hk)
 have hb1 : Below w.heap.size w W1 := by rw [← hW1]; exact (hb0.alloc hb0.size _).alloc (by have := hb0.size; simp; omega) _
 have hs1 : W1.heap.size = W0.heap.size + 2 := by rw [← hW1]; simp
 have hM : AnyZI.ApAt Tryz.sortedA_ren w fn sv w.heap.size (W0.heap.size + 1) W0.heap.size [] W1 :=
  ⟨⟨_, (hold w.heap.size (by omega)).trans hv0, ⟨rfl, .inl ⟨rfl, rfl⟩⟩, by simp⟩,
   by rw [← hW1]; have := World.alloc_heap_new (W0.alloc (.deferred (some []))) (.loop (AnyZI.apRec Tryz.sortedA_ren fn sv w.heap.size W0.heap.size .ready none)); rwa [World.size_alloc] at this,
   by rw [← hW1]; exact (Below.heap_alloc _ _ _ (by simp)).trans (World.alloc_heap_new W0 _), hb1⟩
 refine ⟨W0.heap.size + 1, [{ target := .collected W0.heap.size, args := #[] }], W1, { target := .fn (.func 320) #[.pointer (some ⟨Bs, 0, none⟩)], args := #[.func (.yield (W0.heap.size + 1)) #[] #[]] }, W1, 320,
  #[.func (.yield (W0.heap.size + 1)) #[] #[]] ++ #[.pointer (some ⟨Bs, 0, none⟩)], W1, ?_, ?_, ?_, ?_, fun _ => h1, ?_⟩
 ·rw [← hW1, ← hsv]; exact run_enterLoop_outer _ _ _ _ _
 ·simp [resolve, go_sem]
 ·intro f' hf'; trivial
 ·simp [invoke, go_sem]
 ·refine (Tryz.vals1_in (n - 1) (by omega) (W0.heap.size + 1) Bs w.heap.size b off zs.length cap zs w hNb hb (AnyZI.ApAt Tryz.sortedA_ren w fn sv w.heap.size (W0.heap.size + 1) W0.heap.size) (fun ss W h => h.below) hc
   (fun pre x W hJ hl => AnyZI.apYield { Tryz.sortedA with } Fence.wide (n - 1 - 1) w fn hfn _ w.heap.size (W0.heap.size + 1) W0.heap.size (by omega) (by omega) (by omega) (Nat.le_refl _) (by omega) zs.length hN (by omega) pre x W hJ hl) W1 ((hb1.cell (p := ⟨Bs, 0, none⟩) hBl).trans hBs) hM).mono ?_
  rintro e W2 ⟨⟨v0, rfl⟩, h2⟩
  rw [Tryz.upto_all] at h2
  obtain ⟨v, hv, hrow, hnil⟩ := h2.box
  have hend := run_endLoop (P := Tryz.prog) h2.L (by simp [AnyZI.apRec])
  obtain ⟨W3, hW3⟩ : ∃ W3, W2.putObj (W0.heap.size + 1) (.loop { AnyZI.apRec Tryz.sortedA_ren fn sv w.heap.size W0.heap.size .ready none with state := .exhausted }) = W3 := ⟨_, rfl⟩
  rw [hW3] at hend
  have hg3 : W2.grownBy W3 (some (W0.heap.size + 1)) := by rw [← hW3]; exact grownBy_putObj_a _ _ _
  have hv3 : W3.heap[w.heap.size]? = some (.cells #[v] 39 (0, 0)) := by rw [← hW3]; exact (World.putObj_heap_other (by omega)).trans hv
  have hK3 : W3.heap[W0.heap.size]? = some (.deferred (some [])) := by rw [← hW3]; exact (World.putObj_heap_other (by omega)).trans h2.K
  have hrow3 := hrow.kept hg3 (ownsRow_ne_a hrow h2.L (fun cur e => by cases e))
  have hb3 : Below w.heap.size w W3 := h2.below.grown hg3 h2.below.size (fun k e => by cases e; omega)
  obtain ⟨hc3, hf3⟩ := cell_of_box_a hv3
  clear hW3
  refine ⟨none, W3, hend, ?_⟩
  gi_wp2
  rw [← hs0]
  refine ⟨by simp, .inl ⟨_, _, rfl, run_takeDeferred hK3, ?_⟩⟩
  exact ⟨_, results_tmp rfl _ _ _, v, rfl, hrow3.kept (grownBy_putObj_a _ _ _) (ownsRow_ne_a hrow3 hK3 (fun cur e => by cases e)), hnil, hb3.grown (grownBy_putObj_a _ _ _) hb3.size (fun k e => by cases e; omega)⟩
set_option maxHeartbeats 1000000 in
theorem Tryz.collectVals_in (n : Nat) (hn : 3 ≤ n) (Bs b off cap : Nat) (zs : List Int) (hN : zs.length ≤ maxLen) (hNb : zs.length * 8 ≤ 140737488351232) (w : World)
  (hBs : w.cell? ⟨Bs, 0, none⟩ = some (.slice (some ⟨b, off, none⟩) zs.length cap)) (hBl : Bs < w.heap.size) (hb : b < w.heap.size) (hc : ∀ j, j < zs.length → w.cell? ⟨b, off + j, none⟩ = some (.int .i64 (zs[j]?.getD 0))) :
  CallsIn Fence.wide n Tryz.prog 318 #[.func (.func 320) #[] #[.pointer (some ⟨Bs, 0, none⟩)]] w fun e w' => ∃ (v : Value), e = .returned v ∧ w'.ownsRow w.heap.size 3 1 v zs.length (zs.map encZ) ∧ (v = .slice none 0 0 ↔ zs = []) ∧ Below w.heap.size w w' := by
 have h1 : 1 ≤ n := by omega
 have cA := Tryz.appendVals_in (n - 1) (by omega) Bs b off cap zs hN hNb w hBs hBl hb hc
 have hf : Fence.wide.fn 324 := trivial
 refine callsIn_of_wp Tryz.func318 rfl trivial ?_ rfl
 simp only [Tryz.ntmps318, List.size_toArray, List.length_cons, List.length_nil, Nat.reduceAdd, Nat.reduceSub, Array.replicate_succ, Array.replicate_zero, List.push_toArray, List.append_toArray, List.nil_append, List.cons_append]
 gi_wp2_with (gi_at_call 324; refine cA.mono ?_; rintro e w' ⟨v, rfl, hrow, hnil, hb⟩)
 go_ret
 exact ⟨v, rfl, hrow, hnil, hb⟩
set_option maxRecDepth 100000 in
set_option maxHeartbeats 2000000 in
theorem Tryz.sortedVals_in (n : Nat) (hn : 4 ≤ n) (Bs b off cap : Nat) (zs : List Int) (hz : zs ≠ []) (hN : zs.length ≤ maxLen) (hNb : zs.length * 8 ≤ 140737488351232) (w : World)
  (hBs : w.cell? ⟨Bs, 0, none⟩ = some (.slice (some ⟨b, off, none⟩) zs.length cap)) (hBl : Bs < w.heap.size) (hb : b < w.heap.size) (hc : ∀ j, j < zs.length → w.cell? ⟨b, off + j, none⟩ = some (.int .i64 (zs[j]?.getD 0))) :
  CallsIn Fence.wide n Tryz.prog 307 #[.func (.func 320) #[] #[.pointer (some ⟨Bs, 0, none⟩)]] w fun e w' => ∃ gb cap', e = .returned (.slice (some ⟨gb, 0, none⟩) zs.length cap') ∧
   w'.ownsRow w.heap.size 3 1 (.slice (some ⟨gb, 0, none⟩) zs.length cap') zs.length ((zs.mergeSort (fun x y => decide (x ≤ y))).map encZ) ∧ Below w.heap.size w w' := by
 have h1 : 1 ≤ n := by omega
 have cC := Tryz.collectVals_in (n - 1) (by omega) Bs b off cap zs hN hNb w hBs hBl hb hc
 have hf : Fence.wide.fn 318 := trivial
 have hf2 : Fence.wide.fn 319 := trivial
 refine callsIn_of_wp Tryz.func307 rfl trivial ?_ rfl
 simp only [Tryz.ntmps307, List.size_toArray, List.length_cons, List.length_nil, Nat.reduceAdd, Nat.reduceSub, Array.replicate_succ, Array.replicate_zero, List.push_toArray, List.append_toArray, List.nil_append, List.cons_append]
 gi_wp2_with (gi_at_call 318; refine cC.mono ?_; rintro e W ⟨v, rfl, hrow, hnil, hb⟩)
 rcases hrow.2 with ⟨rfl, hz2⟩ | ⟨gb, cap2, cur, rfl, hbase, hgb, r1, r2, r3, r4⟩
 ·exact absurd (hnil.1 rfl) hz
 ·have hH : Holds encZ W gb 0 zs.toArray := holds_of_block_i hgb (by simpa using r4)
  have hgl : gb < W.heap.size := (Array.getElem?_eq_some_iff.1 hgb).1
  have hsz : zs.length < 4611686018427387904 := by omega
  have cS := (Tryz.sortsA (n - 1)).1 gb 0 cap2 zs W hH hgl hsz
  change CallsIn _ _ _ 319 _ _ _ at cS
  gi_wp2_with (gi_at_call 319; refine cS.mono ?_; rintro e w' ⟨rfl, nn, os, rfl⟩)
  go_ret
  exact ⟨_, _, rfl, ownsRow_sorted_i (by simp) hbase hgb r1 r2 r3, hb.grown (grownBy_sorted_i _) hb.size (fun j hj => by cases hj; exact hbase)⟩
theorem Tryz.values_in (n : Nat) (a : Option Addr) (len cap : Nat) (w : World) :
  CallsIn Fence.wide n Tryz.prog 308 #[.slice a len cap] w fun e w' => e = .returned (.func (.func 320) #[] #[.pointer (some ⟨w.heap.size, 0, none⟩)]) ∧ w' = w.alloc (.cells #[.slice a len cap] 39) := by
 refine callsIn_of_wp Tryz.func308 rfl trivial ?_ rfl
 simp only [Tryz.ntmps308, List.size_toArray, List.length_cons, List.length_nil, Nat.reduceAdd, Nat.reduceSub, Array.replicate_succ, Array.replicate_zero, List.push_toArray, List.append_toArray, List.nil_append, List.cons_append]
 gi_wp2
 go_ret
 exact ⟨rfl, rfl⟩
def Tryz.med (zs : List Int) : Int := (zs.mergeSort (fun x y => decide (x ≤ y)))[zs.length / 2]?.getD 0
theorem Tryz.row_cell {W : World} {base gb cap : Nat} {zs : List Int} (h : W.ownsRow base 3 1 (.slice (some ⟨gb, 0, none⟩) zs.length cap) zs.length ((zs.mergeSort (fun x y => decide (x ≤ y))).map encZ)) (hz : zs ≠ []) :
  W.cell? ⟨gb, zs.length / 2, none⟩ = some (.int .i64 (Tryz.med zs)) := by
 have hp : 0 < zs.length := List.length_pos_iff.2 hz
 rcases h.2 with ⟨e, _⟩ | ⟨g, cap2, cur, e, hbase, hgb, r1, r2, r3, r4⟩
 ·cases e
 ·cases e
  have hH : Holds encZ W gb 0 (zs.mergeSort (fun x y => decide (x ≤ y))).toArray := holds_of_block_i hgb (by simpa using r4)
  have := (hH (zs.length / 2) (by simp; omega)).1
  rw [Nat.zero_add] at this
  rw [this]
  unfold Tryz.med encZ
  simp
set_option maxRecDepth 100000 in
set_option maxHeartbeats 2000000 in
theorem Tryz.median_in (n : Nat) (hn : 5 ≤ n) (b off cap : Nat) (zs : List Int) (hz : zs ≠ []) (hN : zs.length ≤ 1048576) (w : World)
  (hb : b < w.heap.size) (hc : ∀ j, j < zs.length → w.cell? ⟨b, off + j, none⟩ = some (.int .i64 (zs[j]?.getD 0))) :
  CallsIn Fence.wide n Tryz.prog 277 #[.slice (some ⟨b, off, none⟩) zs.length cap] w fun e w' => e = .returned (.int .i64 (Tryz.med zs)) ∧ Below w.heap.size w w' := by
 have h1 : 1 ≤ n := by omega
 have hp : 0 < zs.length := List.length_pos_iff.2 hz
 have hB0 : Below w.heap.size w (w.alloc (.cells #[.slice (some ⟨b, off, none⟩) zs.length cap] 39)) := (Below.refl _ w).alloc (Nat.le_refl _) _
 have bN := Boxed.new w 39 (.slice (some ⟨b, off, none⟩) zs.length cap)
 have cV := Tryz.values_in (n - 1) (some ⟨b, off, none⟩) zs.length cap w
 have cS := Tryz.sortedVals_in (n - 1) (by omega) w.heap.size b off cap zs hz (Nat.le_trans hN (by decide)) (by omega) (w.alloc (.cells #[.slice (some ⟨b, off, none⟩) zs.length cap] 39)) bN.cell (by simp) (by simp; omega) (fun j hj => (hB0.cell (p := ⟨b, off + j, none⟩) hb).trans (hc j hj))
 have hf : Fence.wide.fn 308 := trivial
 have hf2 : Fence.wide.fn 307 := trivial
 refine callsIn_of_wp Tryz.func277 rfl trivial ?_ rfl
 simp only [Tryz.ntmps277, List.size_toArray, List.length_cons, List.length_nil, Nat.reduceAdd, Nat.reduceSub, Array.replicate_succ, Array.replicate_zero, List.push_toArray, List.append_toArray, List.nil_append, List.cons_append]
 gi_wp2_with (first
  | (gi_at_call 308; refine cV.mono ?_; rintro e w' ⟨rfl, rfl⟩)
  | (gi_at_call 307; refine cS.mono ?_; rintro e w' ⟨gb, cap', rfl, hrow, hbb⟩; have hcell := Tryz.row_cell hrow hz))
 go_ret
 exact ⟨rfl, hB0.trans (hbb.mono (by simp))⟩
end Go.Proofs
namespace Go.Proofs.YteifdelnahccjaaGreatDoor
open Go.V
def iT (x : Int) : List V.T := [.int .i64 x]
theorem s277 (L : List Int) (nn : Bool) (hne : L ≠ []) (hL : L.length ≤ 1048576) : V.Pure En 277 [.one (.sl nn (L.map iT))] [.one (.int .i64 (Tryz.med L))] := by
 unfold V.Pure
 refine ⟨by kernel_rfl, fun I w vs hI hG hlen har => ?_⟩
 obtain ⟨v, rfl⟩ : ∃ v, vs = #[v] := by
  match vs, hlen with
  | ⟨[v]⟩, _ => exact ⟨v, rfl⟩
 have h0 := har 0 _ v rfl rfl
 cases h0 with
 | one x v h =>
  cases h with
  | sl _ _ a len cap sz rd hle hcap hnil hI2 hsz hrd hsub =>
   have hl2 : len = L.length := by rw [hle, List.length_map]
   subst hl2
   have hne2 : L.map iT ≠ [] := by simpa using hne
   match a, hnil, hI2, hrd with
   | none, hnil, _, _ => exact absurd (hnil rfl).2.1 hne2
   | some ⟨blk, off, spot⟩, _, hI2, hrd =>
    obtain ⟨e1, e2⟩ := hI2 _ rfl hne2
    dsimp only at e1 e2
    subst e1
    have h1 : sz = 1 := by
     match L, hne with
     | x :: r, _ => exact (hsz (iT x) (by simp)).symm
    subst h1
    have hc : ∀ j, j < L.length → w.cell? ⟨blk, off + j, none⟩ = some (.int .i64 (L[j]?.getD 0)) := fun j hj => by
     have hg : get2 (L.map iT) j 0 = some (.int .i64 (L[j]?.getD 0)) := by
      unfold get2; rw [List.getElem?_map, List.getElem?_eq_getElem hj]; rfl
     have q1 := hrd _ j 0 _ rfl hg
     have q2 := hsub j 0 _ hg
     generalize rd j 0 = z at q1 q2
     cases q2
     simpa using q1
    refine (callsIn_wide.1 (Tryz.median_in 5 (Nat.le_refl _) blk off cap L hne hL w (hI _ e2) hc)).mono ?_
    rintro e w' ⟨rfl, hb⟩
    exact ⟨_, rfl, hb, .one _ _ (.one _ _ (.int _ _))⟩
end Go.Proofs.YteifdelnahccjaaGreatDoor
