import Derived.RangeFuncBox
import Derived.RangeFuncLeaves
import Derived.Shelf.Abstract
import Derived.WalkKit
import Derived.OwnWalkIn
import Derived.TacticsInMore
import Derived.LoopNIn
import Derived.LoopIn
import Derived.Test.YteifdelnahccjaaGreatDoorE6
namespace Go.Proofs.YteifdelnahccjaaGreatDoor
open Go.V
set_option linter.unusedVariables false
set_option linter.unusedSimpArgs false
set_option maxRecDepth 20000
set_option maxHeartbeats 4000000
def tT (s : ByteArray) : List V.T := [.str s]
def tV (s : ByteArray) : List V := [.str s]
theorem rowsT (L : List ByteArray) : rowsV (L.map tT) = L.map tV := by unfold rowsV; rw [List.map_map]; rfl
theorem getV0 {α : Type} (f : α → List V) (d : α) {L : List α} {k : Nat} (h : k < L.length) : (L.map f)[0 + ((k : Int)).toNat]? = some (f (L.getD k d)) := by
 show (L.map f)[0 + k]? = _; rw [Nat.zero_add]; simp [h]
def lix : List ByteArray → Nat → Int
 | [], _ => -1
 | s :: r, k => if 20000 < s.size then k else lix r (k + 1)
theorem lix_at {L : List ByteArray} {i : Nat} (h : i < L.length) : lix (L.drop i) i = if 20000 < (L.getD i ⟨#[]⟩).size then (i : Int) else lix (L.drop (i + 1)) (i + 1) := by
 rw [List.drop_eq_getElem_cons h, show L.getD i ⟨#[]⟩ = L[i] by simp [h]]; rfl
theorem lix_end {L : List ByteArray} {i : Nat} (h : L.length ≤ i) : lix (L.drop i) i = -1 := by rw [List.drop_eq_nil_of_le h]; rfl
theorem Z6 : ∀ (L : List ByteArray) (k : Nat), 0 ≤ lix L k ↔ ¬ short L
 | [], k => ⟨fun h => by have q : (0 : Int) ≤ -1 := h; omega, fun h => absurd (fun s hs => (by cases hs)) h⟩
 | s :: r, k => by
  unfold lix
  by_cases c : 20000 < s.size
  ·rw [if_pos c]
   exact ⟨fun _ q => by have := q s (List.mem_cons_self ..); omega, fun _ => by omega⟩
  ·rw [if_neg c, Z6 r (k + 1)]
   exact ⟨fun h q => h (fun x hx => q x (List.mem_cons_of_mem _ hx)), fun h q => h (fun x hx => by
    rcases List.mem_cons.1 hx with e | e
    ·rw [e]; omega
    ·exact q x e)⟩
def lsI (p : ByteArray) : Nat → Rd
 | 0 => Rd.sk p ⟨0, false⟩ 1
 | i + 1 => (lsI p i).skz p 2
def lsX (p : ByteArray) : Nat → List ByteArray
 | 0 => []
 | i + 1 => lsX p i ++ [(lsI p i).tkz p 2]
theorem lsX_len (p : ByteArray) : ∀ i, (lsX p i).length = i
 | 0 => rfl
 | i + 1 => by show (lsX p i ++ [_]).length = _; rw [List.length_append, lsX_len p i]; rfl
theorem Z7 (p : ByteArray) : ∀ i, (lsI p i).o ≤ p.size
 | 0 => Rd.sk_le (Nat.zero_le _) (by omega)
 | i + 1 => Rd.skz_le (Z7 p i)
theorem lsI_bad {p : ByteArray} (h : p.size = 0) : ∀ i, (lsI p i).b = true
 | 0 => Rd.sk_noI (by show (p.size : Int) < 0 + 1; omega)
 | i + 1 => Rd.skz_bad (lsI_bad h i)
theorem ls_no {p : ByteArray} (h1 : 1 ≤ p.size) : ∀ {i : Nat}, (∀ l o, sg p i = some (l, o) → lsI p i = ⟨o, false⟩ ∧ lsX p i = l) ∧ (sg p i = none → (lsI p i).b = true)
 | 0 => ⟨fun l o h => (by cases h; exact ⟨bS1 h1, rfl⟩), fun h => (by cases h)⟩
 | i + 1 => by
  have ih := ls_no h1 (i := i)
  match e : sg p i with
  | none => exact ⟨fun l o h => (by rw [sg_mono e] at h; cases h), fun _ => Rd.skz_bad (ih.2 e)⟩
  | some (l, o) =>
   obtain ⟨e1, e2⟩ := ih.1 l o e
   have ol := (sg_len e).2.1 h1
   by_cases c : o + 2 ≤ p.size ∧ o + 2 + (num p o 2).toNat ≤ p.size
   ·refine ⟨fun l2 o2 h => ?_, fun h => (by rw [AC e c] at h; cases h)⟩
    rw [AC e c] at h
    cases h
    refine ⟨?_, ?_⟩
    ·show Rd.skz p (lsI p i) 2 = _
     rw [e1, AA c.1 c.2]
    ·show lsX p i ++ [Rd.tkz p (lsI p i) 2] = _
     rw [e1, e2, tkz_ok c.1 c.2]
   ·refine ⟨fun l2 o2 h => (by rw [sg_no e c] at h; cases h), fun _ => ?_⟩
    show (Rd.skz p (lsI p i) 2).b = true
    rw [e1]; exact skz_no ol c
theorem lsC_yes {p : ByteArray} {k : Nat} (hk : k = (Rd.nm p ⟨0, false⟩ 1).toNat) (hd : (lsI p k).done p) (h100 : k ≤ 100) (hs : short (lsX p k)) : lsC p = some (lsX p k) := by
 rcases Nat.eq_zero_or_pos p.size with z | z
 ·have := hd.1; rw [lsI_bad z] at this; cases this
 ·rw [bN1 z] at hk
  have n0 := N7 p 0 1
  match e : sg p k with
  | none => have := hd.1; rw [(ls_no z).2 e] at this; cases this
  | some (l, o) =>
   obtain ⟨e1, e2⟩ := (ls_no z).1 l o e
   rw [e1] at hd
   have ho : o = p.size := hd.2
   unfold lsC
   rw [if_pos ⟨z, by omega⟩, ← hk, e]
   show (if o = p.size ∧ short l then some l else none) = _
   rw [if_pos ⟨ho, by rw [← e2]; exact hs⟩, e2]
theorem V0 {p : ByteArray} {k : Nat} (hk : k = (Rd.nm p ⟨0, false⟩ 1).toNat) (h : ¬ (lsI p k).done p ∨ 100 < k ∨ ¬ short (lsX p k)) : lsC p = none := by
 unfold lsC
 split
 ·next c =>
  rw [bN1 c.1] at hk
  rw [← hk]
  match e : sg p k with
  | none => rfl
  | some (l, o) =>
   obtain ⟨e1, e2⟩ := (ls_no c.1).1 l o e
   show (if o = p.size ∧ short l then some l else none) = _
   rw [if_neg]
   rintro ⟨q1, q2⟩
   rcases h with h | h | h
   ·rw [e1] at h; exact h ⟨rfl, q1⟩
   ·omega
   ·rw [e2] at h; exact h q2
 ·rfl
def lsO (p : ByteArray) : List ByteArray := match lsC p with | some l => l | none => []
structure LS where
 i : Nat
 o : V
 b : Nat
 m : Nat
 g : Heap
structure LI (p : ByteArray) (k : Nat) (a : LS) : Prop where
 il : a.i ≤ k
 g0 : a.g 0 = some (rdB p (lsI p a.i))
 out : LsOK tV 1 9 1 (lsX p a.i) a.o a.b a.m a.g
 mm : 1 ≤ a.m
theorem s217 (s : ByteArray) : Pure En 217 [.one (.str s)] [.one (.bool (decide (20000 < s.size)))] := by
 refine Pure.of_ev (st := []) Tryz.func217 rfl kb ?_
 refine br ?_ ?_ <;> intro h1_2
 ·first | (refine C3 rfl ?_; omega) | (refine B7 rfl ?_; omega)
 ·first | (refine C3 rfl ?_; omega) | (refine B7 rfl ?_; omega)
theorem o238 (L : List ByteArray) (hL : L.length ≤ 1048576) {b : Nat} {h : Heap} {n : Nat} (hb : h b = some ⟨L.map tV, 1, 9⟩) (hk : b < n) : V.Open En 238 [.view b 0 L.length, .clo 217 []] h n (.int .i64 (lix L 0)) [] n := by
 have hl : (L.map tV).length = L.length := List.length_map ..
 refine V.Open.of_ev (st := []) Tryz.func238 rfl kb ?_
 refine A9 (fun (i : Nat) => [.view b 0 L.length, .clo 217 [], .unk, .unk, .unk, .unk, .unk, .int .i64 L.length, .int .i64 i]) (fun (i : Nat) => h) (fun (i : Nat) => n) (fun (i : Nat) => i ≤ L.length ∧ lix (L.drop i) i = lix L 0) (fun (i : Nat) => L.length - i) 0 ?_ ?_ ?_ ?_ ?_
 ·exact ⟨Nat.zero_le _, rfl⟩
 ·(repeat first | exact LE.nil _ | refine LE.unk _ _ ?_ | refine LE.eq _ _ _ rfl ?_)
 ·exact LessH.refl _
 ·exact Nat.le_refl _
 intro i hI ih
 obtain ⟨q0, q1⟩ := hI
 refine A3 (st := []) ?_
 refine br ?_ ?_ <;> intro h2_0
 ·(refine D7 (by exact Q0) ⟨rfl, C0 ?_⟩)
  refine A2 ?_ (by exact Q0) (by (first | rfl | assumption | exact getV0 tV ⟨#[]⟩ (k := i) (by omega)))
  refine B8 (s217 (L.getD i ⟨#[]⟩)) rfl j2 ?_ ?_ <;> intro h4_5
  ·rw [show lix L 0 = (i : Int) by rw [← q1, lix_at (by omega)]; exact if_pos h4_5]
   exact fiO rfl rfl (fun _ _ _ e => e) (Nat.le_refl _)
  ·refine C1 ?_
   have e := lix_at (L := L) (i := i) (by omega)
   rw [if_neg h4_5] at e
   have e1 := e.symm.trans q1
   exact C9 (ih (i + 1) ⟨by omega, e1⟩ (by omega)) (by (repeat first | exact LE.nil _ | refine LE.unk _ _ ?_ | refine LE.eq _ _ _ rfl ?_)) (LessH.refl _) (Nat.le_refl _)
 ·rw [show lix L 0 = -1 by rw [← q1, lix_end (by omega)]]
  exact fiO rfl rfl (fun _ _ _ e => e) (Nat.le_refl _)
theorem o238n {h : Heap} {n : Nat} : V.Open En 238 [.nsl, .clo 217 []] h n (.int .i64 (-1)) [] n := by
 refine V.Open.of_ev (st := []) Tryz.func238 rfl kb ?_
 refine A3 (st := []) ?_
 refine br (fun h => absurd h ((by omega))) ?_
 intro h2_0
 exact fiO rfl rfl (fun _ _ _ e => e) (Nat.le_refl _)
theorem o181 (L : List ByteArray) (hL : L.length ≤ 1048576) {b : Nat} {h : Heap} {n : Nat} (hb : h b = some ⟨L.map tV, 1, 9⟩) (hk : b < n) : V.Open En 181 [.view b 0 L.length, .clo 217 []] h n (.bool (decide (¬ short L))) [] n := by
 refine V.Open.of_ev (st := []) Tryz.func181 rfl kb ?_
 refine O3 (o238 L hL hb hk) rfl rfl rfl ?_
 refine br ?_ ?_ <;> intro h1_3
 ·first
  | (rw [decide_eq_true ((Z6 L 0).1 (by omega))]; exact fiO rfl rfl (fun _ _ _ e => e) (Nat.le_refl _))
  | (rw [decide_eq_false (fun q => by have := (Z6 L 0).2 q; omega)]; exact fiO rfl rfl (fun _ _ _ e => e) (Nat.le_refl _))
 ·first
  | (rw [decide_eq_true ((Z6 L 0).1 (by omega))]; exact fiO rfl rfl (fun _ _ _ e => e) (Nat.le_refl _))
  | (rw [decide_eq_false (fun q => by have := (Z6 L 0).2 q; omega)]; exact fiO rfl rfl (fun _ _ _ e => e) (Nat.le_refl _))
theorem o181n {h : Heap} {n : Nat} : V.Open En 181 [.nsl, .clo 217 []] h n (.bool false) [] n := by
 refine V.Open.of_ev (st := []) Tryz.func181 rfl kb ?_
 refine O3 o238n rfl rfl rfl ?_
 refine br ?_ ?_ <;> intro h1_3
 ·first | exact fiO rfl rfl (fun _ _ _ e => e) (Nat.le_refl _) | (exfalso; omega)
 ·first | exact fiO rfl rfl (fun _ _ _ e => e) (Nat.le_refl _) | (exfalso; omega)
theorem s147 (p : ByteArray) : Pure En 147 [.one (.str p)] [.one (.sl false ((lsO p).map tT)), .one (.bool (lsC p).isSome)] := by
 have hnl := bNle p
 refine Pure.of_ev (st := [3, 6]) Tryz.func147 rfl kb ?_
 refine H2 fun G hG => ?_
 have hrd : G 0 = some (rdB p ⟨0, false⟩) := by rw [hG]; unfold rdB; dsimp only; rw [ext_all]; exact Q0
 refine O3 (S7 p ⟨0, false⟩ (Nat.zero_le _) 1 (by omega) ?_ hrd) rfl rfl rfl ?_
 ·exact G9
 refine wlG fun g0 hg0 => ?_
 refine A9 (fun (a : LS) => [.unk, .unk, .unk, .unk, .ptr 0 0 0, a.o, .unk, .unk, .unk, .unk, .int .i64 (Rd.nm p ⟨0, false⟩ 1), .int .i64 a.i]) (fun (a : LS) => a.g) (fun (a : LS) => a.m) (fun (a : LS) => LI p (Rd.nm p ⟨0, false⟩ 1).toNat a) (fun (a : LS) => (Rd.nm p ⟨0, false⟩ 1).toNat - a.i) ⟨0, .nsl, 0, 1 + 1, g0⟩ ?_ ?_ ?_ ?_ ?_
 ·refine ⟨Nat.zero_le _, ?_, .inl ⟨rfl, rfl⟩, by dsimp only; omega⟩
  dsimp only; rw [hg0]; exact Q0
 ·(repeat first | exact LE.nil _ | refine LE.unk _ _ ?_ | refine LE.eq _ _ _ rfl ?_)
 ·exact LessH.refl _
 ·exact Nat.le_refl _
 intro ⟨i, o, b, m, g⟩ hI ih
 have q0 := hI.il
 have hg0 := hI.g0
 have q4 := hI.mm
 dsimp only at q0 hg0 q4 ⊢
 have hrl := lsX_len p i
 rcases hI.out with ⟨e0, e1⟩ | ⟨e1, hbO2, hbO⟩
 all_goals dsimp only at e1
 ·skip
  obtain rfl : i = 0 := by rw [e0] at hrl; exact hrl.symm
  subst e1
  refine A3 (st := [3, 6]) ?_
  refine br ?_ ?_ <;> intro h4_0
  ·refine O3 (o215 p (lsI p 0) (Z7 p 0) 2 (by omega) ?_ ?_) rfl rfl rfl ?_
   ·exact G9
   ·exact G9
   refine F2 (es := [[.str _]]) j4 kz kb rfl rfl ?_
   (apply ean (s' := 16) (es := [[.str _]]) rfl j3 kz; exact O8; exact Q7; exact Q5; exact Q5; exact Q5)
   refine H2 fun G hG => ?_
   refine C1 ?_
   refine C9 (ih ⟨0 + 1, .view (m + 1 + 1) 0 1, m + 1 + 1, m + 1 + 1 + 1, G⟩ ⟨by dsimp only; omega, ?_, .inr ⟨?_, ?_, by dsimp only; omega, by dsimp only; omega⟩, by dsimp only; omega⟩ (by dsimp only; omega)) (by (repeat first | exact LE.nil _ | refine LE.unk _ _ ?_ | refine LE.eq _ _ _ rfl ?_)) (LessH.refl _) (Nat.le_refl _)
   ·dsimp only; rw [hG]; exact Q0
   ·show V.view _ 0 _ = V.view _ 0 (lsX p 0 ++ [_]).length; rw [List.length_append]; rfl
   ·dsimp only; rw [hG]; show _ = some (Blk.mk ((lsX p 0 ++ [_]).map tV) 1 9); rw [List.map_append]; exact Q0
  ·refine U5 (o216 p (lsI p 0) (Z7 p 0) ?_ ?_) rfl j2 ?_ ?_
   ·exact G9
   ·exact G9
   all_goals intro h7_1
   ·refine br ?_ ?_ <;> intro h7_6
    ·have ek : 0 = (Rd.nm p ⟨0, false⟩ 1).toNat := by omega
     have hno : lsC p = none := V0 ek (by
      first
      | exact .inl (of_decide_eq_false h7_1)
      | exact .inl h7_1
      | exact .inr (.inl (by omega))
      | exact .inr (.inr (of_decide_eq_true h7_10)))
     rw [show lsO p = [] by unfold lsO; rw [hno], hno]
     exact D3 [] (A0 rfl (A0 rfl A1)) (SnapL.cons _ _ _ _ (.one _ _ .nslW) (SnapL.cons _ _ _ _ (.one _ _ (.bool _)) SnapL.nil))
    ·refine U5 o181n rfl j2 ?_ ?_
     all_goals intro h7_10
     ·have ek : 0 = (Rd.nm p ⟨0, false⟩ 1).toNat := by omega
      have hno : lsC p = none := V0 ek (by
       first
       | exact .inl (of_decide_eq_false h7_1)
       | exact .inl h7_1
       | exact .inr (.inl (by omega))
       | exact .inr (.inr (of_decide_eq_true h7_10)))
      rw [show lsO p = [] by unfold lsO; rw [hno], hno]
      exact D3 [] (A0 rfl (A0 rfl A1)) (SnapL.cons _ _ _ _ (.one _ _ .nslW) (SnapL.cons _ _ _ _ (.one _ _ (.bool _)) SnapL.nil))
     ·have ek : 0 = (Rd.nm p ⟨0, false⟩ 1).toNat := by omega
      have hyes : lsC p = some (lsX p 0) := lsC_yes ek (by first | exact of_decide_eq_true h7_1 | exact h7_1) (by omega) (fun s hs => by cases hs)
      rw [show lsO p = lsX p 0 by unfold lsO; rw [hyes], hyes]
      refine D3 [] (A0 rfl (A0 rfl A1)) ?_
      exact (SnapL.cons _ _ _ _ (.one _ _ .nslW) (SnapL.cons _ _ _ _ (.one _ _ (.bool _)) SnapL.nil))
   ·have ek : 0 = (Rd.nm p ⟨0, false⟩ 1).toNat := by omega
    have hno : lsC p = none := V0 ek (by
     first
     | exact .inl (of_decide_eq_false h7_1)
     | exact .inl h7_1
     | exact .inr (.inl (by omega))
     | exact .inr (.inr (of_decide_eq_true h7_10)))
    rw [show lsO p = [] by unfold lsO; rw [hno], hno]
    exact D3 [] (A0 rfl (A0 rfl A1)) (SnapL.cons _ _ _ _ (.one _ _ .nslW) (SnapL.cons _ _ _ _ (.one _ _ (.bool _)) SnapL.nil))
 ·skip
  dsimp only at hbO2 hbO
  subst e1
  have hl100 : (lsX p i).length ≤ 1048576 := by omega
  refine A3 (st := [3, 6]) ?_
  refine br ?_ ?_ <;> intro h4_0
  ·refine O3 (o215 p (lsI p i) (Z7 p i) 2 (by omega) ?_ ?_) rfl rfl rfl ?_
   ·exact G9
   ·exact G9
   refine F2 (es := [[.str _]]) j4 kz kb rfl rfl ?_
   (apply eap (s' := 16) (es := [[.str _]]) rfl rfl; exact Q0; exact j2; exact Q23; exact j2; exact kz; exact O8; exact Q7; exact Q5; exact Q5)
   refine H2 fun G hG => ?_
   refine C1 ?_
   refine C9 (ih ⟨i + 1, .view (m + 1 + 1) 0 ((lsX p i).length + 1), m + 1 + 1, m + 1 + 1 + 1, G⟩ ⟨by dsimp only; omega, ?_, .inr ⟨?_, ?_, by dsimp only; omega, by dsimp only; omega⟩, by dsimp only; omega⟩ (by dsimp only; omega)) (by (repeat first | exact LE.nil _ | refine LE.unk _ _ ?_ | refine LE.eq _ _ _ rfl ?_)) (LessH.refl _) (Nat.le_refl _)
   ·dsimp only; rw [hG]; exact Q0
   ·show V.view _ 0 _ = V.view _ 0 (lsX p i ++ [_]).length; rw [List.length_append]; rfl
   ·dsimp only; rw [hG]; show _ = some (Blk.mk ((lsX p i ++ [_]).map tV) 1 9); rw [List.map_append]; exact Q0
  ·refine U5 (o216 p (lsI p i) (Z7 p i) ?_ ?_) rfl j2 ?_ ?_
   ·exact G9
   ·exact G9
   all_goals intro h7_1
   ·refine br ?_ ?_ <;> intro h7_6
    ·have ek : i = (Rd.nm p ⟨0, false⟩ 1).toNat := by omega
     have hno : lsC p = none := V0 ek (by
      first
      | exact .inl (of_decide_eq_false h7_1)
      | exact .inl h7_1
      | exact .inr (.inl (by omega))
      | exact .inr (.inr (of_decide_eq_true h7_10)))
     rw [show lsO p = [] by unfold lsO; rw [hno], hno]
     exact D3 [] (A0 rfl (A0 rfl A1)) (SnapL.cons _ _ _ _ (.one _ _ .nslW) (SnapL.cons _ _ _ _ (.one _ _ (.bool _)) SnapL.nil))
    ·refine U5 (o181 (lsX p i) hl100 hbO2 ?_) rfl j2 ?_ ?_
     ·exact G9
     all_goals intro h7_10
     ·have ek : i = (Rd.nm p ⟨0, false⟩ 1).toNat := by omega
      have hno : lsC p = none := V0 ek (by
       first
       | exact .inl (of_decide_eq_false h7_1)
       | exact .inl h7_1
       | exact .inr (.inl (by omega))
       | exact .inr (.inr (of_decide_eq_true h7_10)))
      rw [show lsO p = [] by unfold lsO; rw [hno], hno]
      exact D3 [] (A0 rfl (A0 rfl A1)) (SnapL.cons _ _ _ _ (.one _ _ .nslW) (SnapL.cons _ _ _ _ (.one _ _ (.bool _)) SnapL.nil))
     ·have ek : i = (Rd.nm p ⟨0, false⟩ 1).toNat := by omega
      have hyes : lsC p = some (lsX p i) := lsC_yes ek (by first | exact of_decide_eq_true h7_1 | exact h7_1) (by omega) (by have q := of_decide_eq_false h7_10; exact Classical.not_not.1 q)
      rw [show lsO p = lsX p i by unfold lsO; rw [hyes], hyes]
      refine D3 [b] (A0 rfl (A0 rfl A1)) ?_
      exact (SnapL.cons _ _ _ _ (.one _ _ (.weak _ _ (B5 (b := ⟨(lsX p i).map tV, 1, 9⟩) ((lsX p i).map tT) (List.mem_singleton.2 rfl) (by exact Q0) (rowsT _).symm (List.length_map ..).symm))) (SnapL.cons _ _ _ _ (.one _ _ (.bool _)) SnapL.nil))
   ·have ek : i = (Rd.nm p ⟨0, false⟩ 1).toNat := by omega
    have hno : lsC p = none := V0 ek (by
     first
     | exact .inl (of_decide_eq_false h7_1)
     | exact .inl h7_1
     | exact .inr (.inl (by omega))
     | exact .inr (.inr (of_decide_eq_true h7_10)))
    rw [show lsO p = [] by unfold lsO; rw [hno], hno]
    exact D3 [] (A0 rfl (A0 rfl A1)) (SnapL.cons _ _ _ _ (.one _ _ .nslW) (SnapL.cons _ _ _ _ (.one _ _ (.bool _)) SnapL.nil))
open Go.V
set_option linter.unusedVariables false
set_option linter.unusedSimpArgs false
set_option maxRecDepth 20000
set_option maxHeartbeats 4000000
theorem A7 {α : Type} (f : α → List V.T) (d : α) {L : List α} {k : Nat} (h : k < L.length) : (L.map f)[k]? = some (f (L.getD k d)) := by simp [h]
abbrev pOf (s : ByteArray) : Prop := mOK s ∧ (msC s).kd = 2
theorem mss_yes : ∀ {r : List ByteArray}, (∀ s ∈ r, pOf s) → mss r = some (r.map msC)
 | [], _ => rfl
 | s :: r, h => by
  have h1 := h s (List.mem_cons_self ..)
  unfold mss
  rw [if_pos ⟨h1.1.1, h1.1.2, h1.2⟩, mss_yes (fun x hx => h x (List.mem_cons_of_mem _ hx))]; rfl
theorem S5 : ∀ {r : List ByteArray} {s : ByteArray}, s ∈ r → ¬ pOf s → mss r = none
 | x :: r, s, hs, h => by
  unfold mss
  rcases List.mem_cons.1 hs with e | e
  ·rw [if_neg (by rw [← e]; exact fun q => h ⟨⟨q.1, q.2.1⟩, q.2.2⟩)]
  ·rw [S5 e h]; split <;> rfl
noncomputable def ctX (p : ByteArray) : Ct := match ctC p with | some c => c | none => Ct0
def csL (r : List ByteArray) : Nat → List Msg
 | 0 => []
 | i + 1 => csL r i ++ [mX (r.getD i ⟨#[]⟩)]
theorem csL_len (r : List ByteArray) : ∀ i, (csL r i).length = i
 | 0 => rfl
 | i + 1 => by show (csL r i ++ [_]).length = _; rw [List.length_append, csL_len r i]; rfl
theorem csL_tk {r : List ByteArray} : ∀ {i : Nat}, i ≤ r.length → (∀ j, j < i → pOf (r.getD j ⟨#[]⟩)) → csL r i = (r.take i).map msC
 | 0, _, _ => rfl
 | i + 1, h, hp => by
  show csL r i ++ [mX (r.getD i ⟨#[]⟩)] = _
  rw [csL_tk (by omega) (fun j hj => hp j (by omega)), show mX (r.getD i ⟨#[]⟩) = msC _ from if_pos (hp i (by omega)).1, List.take_succ_eq_append_getElem (by omega), List.map_append, show r.getD i ⟨#[]⟩ = r[i] by simp [show i < r.length by omega]]; rfl
theorem pOf_all {r : List ByteArray} (h : ∀ j, j < r.length → pOf (r.getD j ⟨#[]⟩)) : ∀ s ∈ r, pOf s := fun s hs => by
 obtain ⟨i, hi, e⟩ := List.getElem_of_mem hs
 have := h i hi
 rwa [show r.getD i ⟨#[]⟩ = s by simp [hi, e]] at this
theorem J6 {r : List ByteArray} {i : Nat} (h : i < r.length) : r.getD i ⟨#[]⟩ ∈ r := by
 rw [show r.getD i ⟨#[]⟩ = r[i] by simp [h]]; exact List.getElem_mem h
theorem J7 {p : ByteArray} (h : (lsC p).isSome = true) : lsC p = some (lsO p) := by
 unfold lsO
 match e : lsC p with
 | some l => rfl
 | none => rw [e] at h; cases h
theorem Y7 {p : ByteArray} (h : lsC p = none) : ctC p = none := by unfold ctC; rw [h]
theorem ct_len {p : ByteArray} {l : List ByteArray} (h : lsC p = some l) (hl : ¬ (1 ≤ l.length ∧ l.length ≤ 8)) : ctC p = none := by
 unfold ctC; rw [h]
 match l with
 | [] => rfl
 | b :: r => show (if r.length ≤ 7 then _ else none) = none; rw [if_neg (by rw [List.length_cons] at hl; omega)]
theorem ct_at {p b : ByteArray} {r : List ByteArray} (h : lsC p = some (b :: r)) (hl : r.length ≤ 7) : ctC p = (mss r).map (Ct.mk b) := by
 unfold ctC; rw [h]; exact if_pos hl
theorem rowsM (L : List Msg) : rowsV (L.map Msg.T) = L.map Msg.V := by unfold rowsV; rw [List.map_map]; rfl
def CB (s : ByteArray) (o : V) : Option Blk := some ⟨[[.str s, o]], 2, 44⟩
structure CS where
 i : Nat
 o : V
 b : Nat
 m : Nat
 g : Heap
structure CI (s : ByteArray) (r : List ByteArray) (a : CS) : Prop where
 il : a.i ≤ r.length
 g0 : a.g 0 = CB ⟨#[]⟩ .nsl
 g1 : a.g 1 = CB s a.o
 out : LsOK Msg.V 7 37 2 (csL r a.i) a.o a.b a.m a.g
 mm : 2 ≤ a.m
 ok : ∀ j, j < a.i → pOf (r.getD j ⟨#[]⟩)
theorem s148 (p : ByteArray) : Pure En 148 [.one (.str p)] [.agg ((ctX p).T false), .one (.bool (ctC p).isSome)] := by
 refine Pure.of_ev (st := [4, 12]) Tryz.func148 rfl kb ?_
 refine C5 (s147 p) rfl rfl rfl ?_
 refine brB ?_ ?_ <;> intro h1_4
 ·refine B8 (Z0 _ _ _) rfl j2 ?_ ?_ <;> intro h2_5
  ·refine H2 fun G hG => ?_
   have hG0 : G 0 = CB ⟨#[]⟩ .nsl := by rw [hG]; exact Q0
   unfold CB at hG0
   have hls := J7 h1_4
   have hl8 : 1 ≤ (lsO p).length ∧ (lsO p).length ≤ 8 := by rw [List.length_map] at h2_5; omega
   obtain ⟨s, r, hbr⟩ : ∃ s r, lsO p = s :: r := by
    match e : lsO p with
    | [] => rw [e] at hl8; have := hl8.1; simp at this
    | s :: r => exact ⟨s, r, rfl⟩
   rw [hbr] at hls hl8 ⊢
   have hr7 : r.length ≤ 7 := by rw [List.length_cons] at hl8; omega
   have hat := ct_at hls hr7
   have hz : ∀ c ∈ List.map tT (s :: r), c.length = 1 := fun c hc => by obtain ⟨x, _, rfl⟩ := List.mem_map.1 hc; rfl
   have hll : (List.map tT (s :: r)).length = r.length + 1 := by simp
   have hl2 : (List.take (r.map tT).length (r.map tT)).length = r.length := by simp
   (refine C0 (D1 (by first | rfl | assumption | (first | rfl | (rw [List.take_length]; exact A7 tT ⟨#[]⟩ (k := i) (by omega)))) rfl ?_))
   (apply est (u := .agg [.str _, _]) j3; exact Q0; exact Q4; exact j2; rfl; rfl; exact kb; rfl)
   (refine esll j5 ?_ ?_ ?_ ?_ ?_; (first | omega | assumption); (first | omega | assumption); (first | omega | assumption); (first | rfl | assumption | (focus (intro c hc; obtain ⟨x, hx, rfl⟩ := List.mem_map.1 hc; rfl)) | simp))
   refine wlG fun g0 hg0 => ?_
   refine A9 (fun (a : CS) => [.unk, .unk, .ptr 0 0 0, .unk, .unk, .unk, .ptr 1 0 0, .unk, .unk, .unk, .unk, .unk, .unk, .unk, .unk, .unk, .unk, .unk, .unk, .unk, .unk, .unk, .unk, .unk, .unk, .unk, .unk, .unk, .unk, .unk, .sl true false (List.take (r.map tT).length (r.map tT)), .int .i64 (List.take (r.map tT).length (r.map tT)).length, .int .i64 a.i]) (fun (a : CS) => a.g) (fun (a : CS) => a.m) (fun (a : CS) => CI s r a) (fun (a : CS) => r.length - a.i) ⟨0, .nsl, 0, 1 + 1, g0⟩ ?_ ?_ ?_ ?_ ?_
   ·refine ⟨Nat.zero_le _, ?_, ?_, .inl ⟨rfl, rfl⟩, by dsimp only; omega, F6⟩
    ·dsimp only; rw [hg0]; exact Q0
    ·dsimp only; rw [hg0]; exact Q0
   ·(repeat first | exact LE.nil _ | refine LE.unk _ _ ?_ | refine LE.eq _ _ _ rfl ?_)
   ·exact LessH.refl _
   ·exact Nat.le_refl _
   intro ⟨i, o, b, m, g⟩ hI ih
   have q0 := hI.il
   have hg0 := hI.g0
   have hg1 := hI.g1
   have q4 := hI.mm
   have hok := hI.ok
   unfold CB at hg0 hg1
   dsimp only at q0 hg0 hg1 q4 hok ⊢
   have hrl := csL_len r i
   rcases hI.out with ⟨e0, e1⟩ | ⟨e1, hbO2, hbO⟩
   all_goals dsimp only at e1
   ·skip
    obtain rfl : i = 0 := by rw [e0] at hrl; exact hrl.symm
    subst e1
    refine A3 (st := [4, 12]) ?_
    refine br ?_ ?_ <;> intro h6_0
    ·(refine C0 (D1 (by first | rfl | assumption | (first | rfl | (rw [List.take_length]; exact A7 tT ⟨#[]⟩ (k := 0) (by omega)))) rfl ?_))
     refine C5 (s218 (r.getD 0 ⟨#[]⟩)) rfl rfl rfl ?_
     refine brB ?_ ?_ <;> intro h8_4
     ·(apply est (u := .agg [.int _ _, .int _ _, .int _ _, .int _ _, .str _, .str _, .str _]) j3; exact Q0; exact Q4; exact j2; rfl; rfl; exact kb; rfl)
      (apply D2 (vs := [.int _ _, .int _ _, .int _ _, .int _ _, .str _, .str _, .str _]) j2; exact Q0; exact Q4; rfl; exact kb; rfl)
      refine B8 (s219 (mX (r.getD 0 ⟨#[]⟩))) rfl j2 ?_ ?_ <;> intro h9_4
      ·refine A2 ?_ (by exact Q0) (by exact Q4)
       (apply D2 (vs := [.int _ _, .int _ _, .int _ _, .int _ _, .str _, .str _, .str _]) j2; exact Q0; exact Q4; rfl; exact kb; rfl)
       refine F2 (es := [[.int _ _, .int _ _, .int _ _, .int _ _, .str _, .str _, .str _]]) j4 kz kb rfl rfl ?_
       first | (apply eap (s' := 80) (es := [[.int _ _, .int _ _, .int _ _, .int _ _, .str _, .str _, .str _]]) rfl rfl; exact Q0; exact j2; exact Q23; exact j2; exact kz; exact O8; exact Q7; exact Q5; exact Q5) | (apply ean (s' := 80) (es := [[.int _ _, .int _ _, .int _ _, .int _ _, .str _, .str _, .str _]]) rfl j3 kz; exact O8; exact Q7; exact Q5; exact Q5; exact Q5)
       (apply est (u := .view _ _ _) j3; exact Q0; exact Q4; exact j2; rfl; rfl; exact kb; rfl)
       refine H2 fun G hG => ?_
       refine C1 ?_
       have hpi : pOf (r.getD 0 ⟨#[]⟩) := ⟨of_decide_eq_true h8_4, by rw [show mX (r.getD 0 ⟨#[]⟩) = msC _ from if_pos (of_decide_eq_true h8_4)] at h9_4; exact h9_4.1⟩
       refine C9 (ih ⟨0 + 1, .view (m + 1 + 1) 0 1, m + 1 + 1, m + 1 + 1 + 1, G⟩ ⟨by dsimp only; omega, ?_, ?_, .inr ⟨?_, ?_, by dsimp only; omega, by dsimp only; omega⟩, by dsimp only; omega, fun j hj => ?_⟩ (by dsimp only; omega)) (by (repeat first | exact LE.nil _ | refine LE.unk _ _ ?_ | refine LE.eq _ _ _ rfl ?_)) (LessH.refl _) (Nat.le_refl _)
       ·dsimp only; rw [hG]; exact Q0
       ·dsimp only; rw [hG]; exact Q0
       ·show V.view _ 0 _ = V.view _ 0 (csL r 0 ++ [_]).length; rw [List.length_append]; rfl
       ·dsimp only; rw [hG]; show _ = some (Blk.mk ((csL r 0 ++ [_]).map Msg.V) 7 37); rw [List.map_append]; exact Q0
       ·rcases Nat.lt_succ_iff_lt_or_eq.1 hj with q | q
        ·exact hok j q
        ·rw [q]; exact hpi
      ·(apply est (u := .agg [.str _, _]) j3; exact Q0; exact Q4; exact j2; rfl; rfl; exact kb; rfl)
       have hno : ctC p = none := by
        rw [hat, S5 (J6 (i := 0) (by omega)) (fun q => ?_)]
        ·rfl
        ·first
         | exact absurd q.1 (of_decide_eq_false h8_4)
         | (rw [show mX (r.getD 0 ⟨#[]⟩) = msC _ from if_pos q.1] at h9_4; exact h9_4 ⟨q.2, q.1.2⟩)
       rw [show ctX p = Ct0 by unfold ctX; rw [hno], hno]
       refine D3 [] (A0 (A4 rfl (by exact Q0) j2 kb rfl) (A0 rfl A1)) ?_
       exact (SnapL.cons _ _ _ _ (SnapC.agg (.cons _ _ _ _ (.str _) (.cons _ _ _ _ .nslW .nil))) (SnapL.cons _ _ _ _ (.one _ _ (.bool _)) SnapL.nil))
     ·(apply est (u := .agg [.int _ _, .int _ _, .int _ _, .int _ _, .str _, .str _, .str _]) j3; exact Q0; exact Q4; exact j2; rfl; rfl; exact kb; rfl)
      (apply est (u := .agg [.str _, _]) j3; exact Q0; exact Q4; exact j2; rfl; rfl; exact kb; rfl)
      have hno : ctC p = none := by
       rw [hat, S5 (J6 (i := 0) (by omega)) (fun q => ?_)]
       ·rfl
       ·first
        | exact absurd q.1 (of_decide_eq_false h8_4)
        | (rw [show mX (r.getD 0 ⟨#[]⟩) = msC _ from if_pos q.1] at h9_4; exact h9_4 ⟨q.2, q.1.2⟩)
      rw [show ctX p = Ct0 by unfold ctX; rw [hno], hno]
      refine D3 [] (A0 (A4 rfl (by exact Q0) j2 kb rfl) (A0 rfl A1)) ?_
      exact (SnapL.cons _ _ _ _ (SnapC.agg (.cons _ _ _ _ (.str _) (.cons _ _ _ _ .nslW .nil))) (SnapL.cons _ _ _ _ (.one _ _ (.bool _)) SnapL.nil))
    ·(apply D2 (vs := [.str _, _]) j2; exact Q0; exact Q4; rfl; exact kb; rfl)
     (apply est (u := .agg [.str _, _]) j3; exact Q0; exact Q4; exact j2; rfl; rfl; exact kb; rfl)
     have hyes : ctC p = some ⟨s, csL r 0⟩ := by
      have e0 : r = [] := List.length_eq_zero_iff.1 (by omega)
      rw [hat, e0]; rfl
     rw [show ctX p = ⟨s, csL r 0⟩ by unfold ctX; rw [hyes], hyes]
     refine D3 [] (A0 (A4 rfl (by exact Q0) j2 kb rfl) (A0 rfl A1)) ?_
     exact (SnapL.cons _ _ _ _ (SnapC.agg (.cons _ _ _ _ (.str _) (.cons _ _ _ _ .nslW .nil))) (SnapL.cons _ _ _ _ (.one _ _ (.bool _)) SnapL.nil))
   ·skip
    dsimp only at hbO2 hbO
    subst e1
    refine A3 (st := [4, 12]) ?_
    refine br ?_ ?_ <;> intro h6_0
    ·(refine C0 (D1 (by first | rfl | assumption | (first | rfl | (rw [List.take_length]; exact A7 tT ⟨#[]⟩ (k := i) (by omega)))) rfl ?_))
     refine C5 (s218 (r.getD i ⟨#[]⟩)) rfl rfl rfl ?_
     refine brB ?_ ?_ <;> intro h8_4
     ·(apply est (u := .agg [.int _ _, .int _ _, .int _ _, .int _ _, .str _, .str _, .str _]) j3; exact Q0; exact Q4; exact j2; rfl; rfl; exact kb; rfl)
      (apply D2 (vs := [.int _ _, .int _ _, .int _ _, .int _ _, .str _, .str _, .str _]) j2; exact Q0; exact Q4; rfl; exact kb; rfl)
      refine B8 (s219 (mX (r.getD i ⟨#[]⟩))) rfl j2 ?_ ?_ <;> intro h9_4
      ·refine A2 ?_ (by exact Q0) (by exact Q4)
       (apply D2 (vs := [.int _ _, .int _ _, .int _ _, .int _ _, .str _, .str _, .str _]) j2; exact Q0; exact Q4; rfl; exact kb; rfl)
       refine F2 (es := [[.int _ _, .int _ _, .int _ _, .int _ _, .str _, .str _, .str _]]) j4 kz kb rfl rfl ?_
       first | (apply eap (s' := 80) (es := [[.int _ _, .int _ _, .int _ _, .int _ _, .str _, .str _, .str _]]) rfl rfl; exact Q0; exact j2; exact Q23; exact j2; exact kz; exact O8; exact Q7; exact Q5; exact Q5) | (apply ean (s' := 80) (es := [[.int _ _, .int _ _, .int _ _, .int _ _, .str _, .str _, .str _]]) rfl j3 kz; exact O8; exact Q7; exact Q5; exact Q5; exact Q5)
       (apply est (u := .view _ _ _) j3; exact Q0; exact Q4; exact j2; rfl; rfl; exact kb; rfl)
       refine H2 fun G hG => ?_
       refine C1 ?_
       have hpi : pOf (r.getD i ⟨#[]⟩) := ⟨of_decide_eq_true h8_4, by rw [show mX (r.getD i ⟨#[]⟩) = msC _ from if_pos (of_decide_eq_true h8_4)] at h9_4; exact h9_4.1⟩
       refine C9 (ih ⟨i + 1, .view (m + 1 + 1) 0 ((csL r i).length + 1), m + 1 + 1, m + 1 + 1 + 1, G⟩ ⟨by dsimp only; omega, ?_, ?_, .inr ⟨?_, ?_, by dsimp only; omega, by dsimp only; omega⟩, by dsimp only; omega, fun j hj => ?_⟩ (by dsimp only; omega)) (by (repeat first | exact LE.nil _ | refine LE.unk _ _ ?_ | refine LE.eq _ _ _ rfl ?_)) (LessH.refl _) (Nat.le_refl _)
       ·dsimp only; rw [hG]; exact Q0
       ·dsimp only; rw [hG]; exact Q0
       ·show V.view _ 0 _ = V.view _ 0 (csL r i ++ [_]).length; rw [List.length_append]; rfl
       ·dsimp only; rw [hG]; show _ = some (Blk.mk ((csL r i ++ [_]).map Msg.V) 7 37); rw [List.map_append]; exact Q0
       ·rcases Nat.lt_succ_iff_lt_or_eq.1 hj with q | q
        ·exact hok j q
        ·rw [q]; exact hpi
      ·(apply est (u := .agg [.str _, _]) j3; exact Q0; exact Q4; exact j2; rfl; rfl; exact kb; rfl)
       have hno : ctC p = none := by
        rw [hat, S5 (J6 (i := i) (by omega)) (fun q => ?_)]
        ·rfl
        ·first
         | exact absurd q.1 (of_decide_eq_false h8_4)
         | (rw [show mX (r.getD i ⟨#[]⟩) = msC _ from if_pos q.1] at h9_4; exact h9_4 ⟨q.2, q.1.2⟩)
       rw [show ctX p = Ct0 by unfold ctX; rw [hno], hno]
       refine D3 [] (A0 (A4 rfl (by exact Q0) j2 kb rfl) (A0 rfl A1)) ?_
       exact (SnapL.cons _ _ _ _ (SnapC.agg (.cons _ _ _ _ (.str _) (.cons _ _ _ _ .nslW .nil))) (SnapL.cons _ _ _ _ (.one _ _ (.bool _)) SnapL.nil))
     ·(apply est (u := .agg [.int _ _, .int _ _, .int _ _, .int _ _, .str _, .str _, .str _]) j3; exact Q0; exact Q4; exact j2; rfl; rfl; exact kb; rfl)
      (apply est (u := .agg [.str _, _]) j3; exact Q0; exact Q4; exact j2; rfl; rfl; exact kb; rfl)
      have hno : ctC p = none := by
       rw [hat, S5 (J6 (i := i) (by omega)) (fun q => ?_)]
       ·rfl
       ·first
        | exact absurd q.1 (of_decide_eq_false h8_4)
        | (rw [show mX (r.getD i ⟨#[]⟩) = msC _ from if_pos q.1] at h9_4; exact h9_4 ⟨q.2, q.1.2⟩)
      rw [show ctX p = Ct0 by unfold ctX; rw [hno], hno]
      refine D3 [] (A0 (A4 rfl (by exact Q0) j2 kb rfl) (A0 rfl A1)) ?_
      exact (SnapL.cons _ _ _ _ (SnapC.agg (.cons _ _ _ _ (.str _) (.cons _ _ _ _ .nslW .nil))) (SnapL.cons _ _ _ _ (.one _ _ (.bool _)) SnapL.nil))
    ·(apply D2 (vs := [.str _, _]) j2; exact Q0; exact Q4; rfl; exact kb; rfl)
     (apply est (u := .agg [.str _, _]) j3; exact Q0; exact Q4; exact j2; rfl; rfl; exact kb; rfl)
     have hyes : ctC p = some ⟨s, csL r i⟩ := by
      obtain rfl : i = r.length := by omega
      rw [hat, mss_yes (pOf_all hok), csL_tk (Nat.le_refl _) hok, List.take_length]; rfl
     rw [show ctX p = ⟨s, csL r i⟩ by unfold ctX; rw [hyes], hyes]
     refine D3 [b] (A0 (A4 rfl (by exact Q0) j2 kb rfl) (A0 rfl A1)) ?_
     exact (SnapL.cons _ _ _ _ (SnapC.agg (.cons _ _ _ _ (.str _) (.cons _ _ _ _ (.weak _ _ (B5 (b := ⟨(csL r i).map Msg.V, 7, 37⟩) ((csL r i).map Msg.T) (List.mem_singleton.2 rfl) (by exact Q0) (rowsM _).symm (List.length_map ..).symm)) .nil))) (SnapL.cons _ _ _ _ (.one _ _ (.bool _)) SnapL.nil))
  ·(apply est (u := .agg [.str _, _]) j3; exact Q0; exact Q4; exact j2; rfl; rfl; exact kb; rfl)
   have hno : ctC p = none := by
    first
    | exact ct_len (J7 h1_4) (by rw [List.length_map] at h2_5; omega)
    | exact Y7 (by match e : lsC p with | none => rfl | some l => rw [e] at h1_4; cases h1_4)
   rw [show ctX p = Ct0 by unfold ctX; rw [hno], hno]
   refine D3 [] (A0 (A4 rfl (by exact Q0) j2 kb rfl) (A0 rfl A1)) ?_
   exact (SnapL.cons _ _ _ _ (SnapC.agg (.cons _ _ _ _ (.str _) (.cons _ _ _ _ .nslW .nil))) (SnapL.cons _ _ _ _ (.one _ _ (.bool _)) SnapL.nil))
 ·(apply est (u := .agg [.str _, _]) j3; exact Q0; exact Q4; exact j2; rfl; rfl; exact kb; rfl)
  have hno : ctC p = none := by
   first
   | exact ct_len (J7 h1_4) (by rw [List.length_map] at h2_5; omega)
   | exact Y7 (by match e : lsC p with | none => rfl | some l => rw [e] at h1_4; cases h1_4)
  rw [show ctX p = Ct0 by unfold ctX; rw [hno], hno]
  refine D3 [] (A0 (A4 rfl (by exact Q0) j2 kb rfl) (A0 rfl A1)) ?_
  exact (SnapL.cons _ _ _ _ (SnapC.agg (.cons _ _ _ _ (.str _) (.cons _ _ _ _ .nslW .nil))) (SnapL.cons _ _ _ _ (.one _ _ (.bool _)) SnapL.nil))
open Go.V
set_option linter.unusedVariables false
set_option linter.unusedSimpArgs false
set_option maxRecDepth 20000
set_option maxHeartbeats 4000000
theorem s50 (a b c : Int) : Pure En 58 [.one (.int .i64 a), .one (.int .i64 b), .one (.int .i64 c)] [.one (.bool (decide (b ≤ a ∧ a ≤ c)))] := by
 refine Pure.of_ev (st := []) Tryz.func58 rfl kb ?_
 refine br ?_ ?_ <;> intro h1_2
 ·refine br ?_ ?_ <;> intro h1_6
  ·first | (refine C3 rfl ?_; omega) | (refine B7 rfl ?_; omega)
  ·first | (refine C3 rfl ?_; omega) | (refine B7 rfl ?_; omega)
 ·first | (refine C3 rfl ?_; omega) | (refine B7 rfl ?_; omega)
theorem s115 (a : Int) : Pure En 315 [.one (.int .u8 a)] [.one (.bool (decide (letter a)))] := by
 refine Pure.of_ev (st := []) Tryz.func315 rfl kb ?_
 refine br ?_ ?_ <;> intro h1_1
 ·refine br ?_ ?_ <;> intro h1_4
  ·first | (refine C3 rfl ?_; unfold letter; omega) | (refine B7 rfl ?_; unfold letter; omega)
  ·refine br ?_ ?_ <;> intro h1_8
   ·refine br ?_ ?_ <;> intro h1_11
    ·first | (refine C3 rfl ?_; unfold letter; omega) | (refine B7 rfl ?_; unfold letter; omega)
    ·refine br ?_ ?_ <;> intro h1_16
     ·first | (refine C3 rfl ?_; unfold letter; omega) | (refine B7 rfl ?_; unfold letter; omega)
     ·first | (refine C3 rfl ?_; unfold letter; omega) | (refine B7 rfl ?_; unfold letter; omega)
   ·refine br ?_ ?_ <;> intro h1_16
    ·first | (refine C3 rfl ?_; unfold letter; omega) | (refine B7 rfl ?_; unfold letter; omega)
    ·first | (refine C3 rfl ?_; unfold letter; omega) | (refine B7 rfl ?_; unfold letter; omega)
 ·refine br ?_ ?_ <;> intro h1_8
  ·refine br ?_ ?_ <;> intro h1_11
   ·first | (refine C3 rfl ?_; unfold letter; omega) | (refine B7 rfl ?_; unfold letter; omega)
   ·refine br ?_ ?_ <;> intro h1_16
    ·first | (refine C3 rfl ?_; unfold letter; omega) | (refine B7 rfl ?_; unfold letter; omega)
    ·first | (refine C3 rfl ?_; unfold letter; omega) | (refine B7 rfl ?_; unfold letter; omega)
  ·refine br ?_ ?_ <;> intro h1_16
   ·first | (refine C3 rfl ?_; unfold letter; omega) | (refine B7 rfl ?_; unfold letter; omega)
   ·first | (refine C3 rfl ?_; unfold letter; omega) | (refine B7 rfl ?_; unfold letter; omega)
theorem s116 (a : Int) : Pure En 316 [.one (.int .u8 a)] [.one (.bool (decide (digit a)))] := by
 refine Pure.of_ev (st := []) Tryz.func316 rfl kb ?_
 refine br ?_ ?_ <;> intro h1_1
 ·refine br ?_ ?_ <;> intro h1_4
  ·first | (refine C3 rfl ?_; unfold digit; omega) | (refine B7 rfl ?_; unfold digit; omega)
  ·first | (refine C3 rfl ?_; unfold digit; omega) | (refine B7 rfl ?_; unfold digit; omega)
 ·first | (refine C3 rfl ?_; unfold digit; omega) | (refine B7 rfl ?_; unfold digit; omega)
theorem s102 (s : ByteArray) : Pure En 300 [.one (.str s)] [.one (.bool (decide (word s)))] := by
 refine Pure.of_ev (st := []) Tryz.func300 rfl kb ?_
 refine br ?_ ?_ <;> intro h1_2
 ·first
   | exact C3 rfl ⟨by omega, by omega, by assumption, fun j hj => hI.2.2 j (by omega)⟩
   | (refine B7 rfl fun hw => ?_; obtain ⟨w1, w2, w3, w4⟩ := hw; first | omega | exact h1_11 w3 | exact (w4 i (by omega)).elim h6_3 h6_9)
 ·refine br ?_ ?_ <;> intro h1_6
  ·first
    | exact C3 rfl ⟨by omega, by omega, by assumption, fun j hj => hI.2.2 j (by omega)⟩
    | (refine B7 rfl fun hw => ?_; obtain ⟨w1, w2, w3, w4⟩ := hw; first | omega | exact h1_11 w3 | exact (w4 i (by omega)).elim h6_3 h6_9)
  ·refine lit 0 rfl (C0 ?_)
   refine B8 (s115 _) rfl j2 ?_ ?_ <;> intro h1_11
   ·refine D4 (fun (i : Nat) => [.str s, .unk, .unk, .int .i64 i]) (fun (i : Nat) => 1 ≤ i ∧ i ≤ s.size ∧ ∀ j, j < i → letter (bt s j) ∨ digit (bt s j)) (fun (i : Nat) => s.size - i) 1 ?_ ?_ ?_
    ·exact ⟨by omega, by omega, E0 F6 (.inl h1_11)⟩
    ·(repeat first | exact LE.nil _ | refine LE.unk _ _ ?_ | refine LE.eq _ _ _ rfl ?_)
    intro i hI ih
    refine A3 (st := []) ?_
    refine br ?_ ?_ <;> intro h4_3
    ·refine C0 ?_
     refine B8 (s115 _) rfl j2 ?_ ?_ <;> intro h6_3
     ·refine C1 ?_
      exact T5 (ih (i + 1) ⟨by omega, by omega, E0 hI.2.2 (by first | exact .inl h6_3 | exact .inr h6_9)⟩ (by omega)) (by (repeat first | exact LE.nil _ | refine LE.unk _ _ ?_ | refine LE.eq _ _ _ rfl ?_))
     ·refine C0 ?_
      refine B8 (s116 _) rfl j2 ?_ ?_ <;> intro h6_9
      ·refine C1 ?_
       exact T5 (ih (i + 1) ⟨by omega, by omega, E0 hI.2.2 (by first | exact .inl h6_3 | exact .inr h6_9)⟩ (by omega)) (by (repeat first | exact LE.nil _ | refine LE.unk _ _ ?_ | refine LE.eq _ _ _ rfl ?_))
      ·first
        | exact C3 rfl ⟨by omega, by omega, by assumption, fun j hj => hI.2.2 j (by omega)⟩
        | (refine B7 rfl fun hw => ?_; obtain ⟨w1, w2, w3, w4⟩ := hw; first | omega | exact h1_11 w3 | exact (w4 i (by omega)).elim h6_3 h6_9)
    ·first
      | exact C3 rfl ⟨by omega, by omega, by assumption, fun j hj => hI.2.2 j (by omega)⟩
      | (refine B7 rfl fun hw => ?_; obtain ⟨w1, w2, w3, w4⟩ := hw; first | omega | exact h1_11 w3 | exact (w4 i (by omega)).elim h6_3 h6_9)
   ·first
     | exact C3 rfl ⟨by omega, by omega, by assumption, fun j hj => hI.2.2 j (by omega)⟩
     | (refine B7 rfl fun hw => ?_; obtain ⟨w1, w2, w3, w4⟩ := hw; first | omega | exact h1_11 w3 | exact (w4 i (by omega)).elim h6_3 h6_9)
theorem s90 (s : ByteArray) : Pure En 255 [.one (.str s)] [.one (.bool (decide (word s)))] := by
 refine Pure.of_ev (st := []) Tryz.func255 rfl kb ?_
 refine B8 (s102 _) rfl j2 ?_ ?_ <;> intro h1_1
 ·first | exact C3 rfl (by assumption) | exact B7 rfl (by assumption)
 ·first | exact C3 rfl (by assumption) | exact B7 rfl (by assumption)
theorem s76 (s : ByteArray) (n : Int) : Pure En 194 [.one (.str s), .one (.int .i64 n)] [.one (.bool (decide (s.size ≤ n ∧ word s)))] := by
 refine Pure.of_ev (st := []) Tryz.func194 rfl kb ?_
 refine B8 (s50 _ _ _) rfl j2 ?_ ?_ <;> intro h1_3
 ·refine B8 (s90 _) rfl j2 ?_ ?_ <;> intro h1_6
  ·first | exact C3 rfl ⟨by omega, by assumption⟩ | (refine B7 rfl fun hw => ?_; obtain ⟨w1, w2⟩ := hw; first | exact h1_6 w2 | (have := w2.1; omega))
  ·first | exact C3 rfl ⟨by omega, by assumption⟩ | (refine B7 rfl fun hw => ?_; obtain ⟨w1, w2⟩ := hw; first | exact h1_6 w2 | (have := w2.1; omega))
 ·first | exact C3 rfl ⟨by omega, by assumption⟩ | (refine B7 rfl fun hw => ?_; obtain ⟨w1, w2⟩ := hw; first | exact h1_6 w2 | (have := w2.1; omega))
theorem s52 (r : Rq) : Pure En 128 [.agg r.T] [.one (.bool (decide r.OK))] := by
 refine Pure.of_ev (st := []) Tryz.func128 rfl kb ?_
 refine A2 ?_
 refine B8 (s50 _ _ _) rfl j2 ?_ ?_ <;> intro h1_2
 ·refine A2 ?_
  refine B8 (s50 _ _ _) rfl j2 ?_ ?_ <;> intro h1_6
  ·refine A2 ?_
   refine B8 (s50 _ _ _) rfl j2 ?_ ?_ <;> intro h1_11
   ·refine A2 ?_
    refine B8 (s50 _ _ _) rfl j2 ?_ ?_ <;> intro h1_16
    ·refine A2 ?_
     refine B8 (s76 _ _) rfl j2 ?_ ?_ <;> intro h1_21
     ·refine A2 ?_
      refine br ?_ ?_ <;> intro h1_26
      ·refine A2 ?_
       refine br ?_ ?_ <;> intro h1_29
       ·first
         | exact C3 rfl ⟨by omega, by omega, by omega, by omega, ⟨by omega, h1_21.2⟩, by omega⟩
         | (refine B7 rfl fun hw => ?_; obtain ⟨w1, w2, w3, w4, w5, w6⟩ := hw; first | omega | exact h1_21 ⟨by have := w5.1; omega, w5.2⟩)
       ·refine A2 ?_
        refine br ?_ ?_ <;> intro h1_33
        ·first
          | exact C3 rfl ⟨by omega, by omega, by omega, by omega, ⟨by omega, h1_21.2⟩, by omega⟩
          | (refine B7 rfl fun hw => ?_; obtain ⟨w1, w2, w3, w4, w5, w6⟩ := hw; first | omega | exact h1_21 ⟨by have := w5.1; omega, w5.2⟩)
        ·first
          | exact C3 rfl ⟨by omega, by omega, by omega, by omega, ⟨by omega, h1_21.2⟩, by omega⟩
          | (refine B7 rfl fun hw => ?_; obtain ⟨w1, w2, w3, w4, w5, w6⟩ := hw; first | omega | exact h1_21 ⟨by have := w5.1; omega, w5.2⟩)
      ·refine A2 ?_
       refine br ?_ ?_ <;> intro h1_29
       ·first
         | exact C3 rfl ⟨by omega, by omega, by omega, by omega, ⟨by omega, h1_21.2⟩, by omega⟩
         | (refine B7 rfl fun hw => ?_; obtain ⟨w1, w2, w3, w4, w5, w6⟩ := hw; first | omega | exact h1_21 ⟨by have := w5.1; omega, w5.2⟩)
       ·refine A2 ?_
        refine br ?_ ?_ <;> intro h1_33
        ·first
          | exact C3 rfl ⟨by omega, by omega, by omega, by omega, ⟨by omega, h1_21.2⟩, by omega⟩
          | (refine B7 rfl fun hw => ?_; obtain ⟨w1, w2, w3, w4, w5, w6⟩ := hw; first | omega | exact h1_21 ⟨by have := w5.1; omega, w5.2⟩)
        ·first
          | exact C3 rfl ⟨by omega, by omega, by omega, by omega, ⟨by omega, h1_21.2⟩, by omega⟩
          | (refine B7 rfl fun hw => ?_; obtain ⟨w1, w2, w3, w4, w5, w6⟩ := hw; first | omega | exact h1_21 ⟨by have := w5.1; omega, w5.2⟩)
     ·first
       | exact C3 rfl ⟨by omega, by omega, by omega, by omega, ⟨by omega, h1_21.2⟩, by omega⟩
       | (refine B7 rfl fun hw => ?_; obtain ⟨w1, w2, w3, w4, w5, w6⟩ := hw; first | omega | exact h1_21 ⟨by have := w5.1; omega, w5.2⟩)
    ·first
      | exact C3 rfl ⟨by omega, by omega, by omega, by omega, ⟨by omega, h1_21.2⟩, by omega⟩
      | (refine B7 rfl fun hw => ?_; obtain ⟨w1, w2, w3, w4, w5, w6⟩ := hw; first | omega | exact h1_21 ⟨by have := w5.1; omega, w5.2⟩)
   ·first
     | exact C3 rfl ⟨by omega, by omega, by omega, by omega, ⟨by omega, h1_21.2⟩, by omega⟩
     | (refine B7 rfl fun hw => ?_; obtain ⟨w1, w2, w3, w4, w5, w6⟩ := hw; first | omega | exact h1_21 ⟨by have := w5.1; omega, w5.2⟩)
  ·first
    | exact C3 rfl ⟨by omega, by omega, by omega, by omega, ⟨by omega, h1_21.2⟩, by omega⟩
    | (refine B7 rfl fun hw => ?_; obtain ⟨w1, w2, w3, w4, w5, w6⟩ := hw; first | omega | exact h1_21 ⟨by have := w5.1; omega, w5.2⟩)
 ·first
   | exact C3 rfl ⟨by omega, by omega, by omega, by omega, ⟨by omega, h1_21.2⟩, by omega⟩
   | (refine B7 rfl fun hw => ?_; obtain ⟨w1, w2, w3, w4, w5, w6⟩ := hw; first | omega | exact h1_21 ⟨by have := w5.1; omega, w5.2⟩)
theorem s49 (n : Int) : Pure En 57 [.one (.int .i64 n)] [.one (.bool (decide (nodes n)))] := by
 refine Pure.of_ev (st := []) Tryz.func57 rfl kb ?_
 refine br ?_ ?_ <;> intro h1_1
 ·first | (refine C3 rfl ?_; unfold nodes; omega) | (refine B7 rfl ?_; unfold nodes; omega)
 ·refine br ?_ ?_ <;> intro h1_4
  ·first | (refine C3 rfl ?_; unfold nodes; omega) | (refine B7 rfl ?_; unfold nodes; omega)
  ·refine br ?_ ?_ <;> intro h1_8
   ·first | (refine C3 rfl ?_; unfold nodes; omega) | (refine B7 rfl ?_; unfold nodes; omega)
   ·first | (refine C3 rfl ?_; unfold nodes; omega) | (refine B7 rfl ?_; unfold nodes; omega)
theorem snapB {h : Heap} {ids : List Nat} {r : Bool} {id m : Nat} {B : List Int} (hid : id ∈ ids) (hb : h id = some ⟨B.map bV, 1, 5⟩) (hm : m = B.length) : Snap h ids r (.view id 0 m) (.sl true (B.map bT)) :=
 B5 (B.map bT) hid hb (X0 true B).symm (by rw [List.length_map]; exact hm)
theorem X8 (x : Int) (m : Nat) : ∀ j, (topL x m j).length = j
 | 0 => rfl
 | j + 1 => by rw [show topL x m (j + 1) = topL x m j ++ [bt8 x ((m : Int) - 1 - (j : Int))] from rfl, List.length_append, X8 x m j]; rfl
theorem s105 (x : Int) (m : Nat) (hm : m ≤ 8) : Pure En 213 [.one (.int .i64 x), .one (.int .i64 m)] [.one (.sl true ((numL x m).map bT))] := by
 have hl := X8 x m
 refine Pure.of_ev (st := []) Tryz.func213 rfl kb ?_
 refine F2 (es := []) j4 kz kb rfl rfl ?_
 refine E2 ⟨by exact N9, by exact N9⟩ ?_
 refine A9 (fun (a : Int × Nat × Nat × Nat) => [.int .i64 x, .unk, .unk, .unk, .unk, .view a.2.2.1 0 a.2.1, .int .i64 a.1]) (fun (a : Int × Nat × Nat × Nat) => hp [(a.2.2.1, ⟨(topL x m ((m : Int) - 1 - a.1).toNat).map bV, 1, 5⟩)]) (fun (a : Int × Nat × Nat × Nat) => a.2.2.2) (fun (a : Int × Nat × Nat × Nat) => (-1 ≤ a.1 ∧ a.1 ≤ (m : Int) - 1) ∧ a.2.2.1 < a.2.2.2 ∧ a.2.1 = ((m : Int) - 1 - a.1).toNat) (fun (a : Int × Nat × Nat × Nat) => (a.1 + 1).toNat) ((m : Int) - 1, 0, 0, 1) ?_ ?_ ?_ ?_ ?_
 ·exact ⟨by dsimp only; omega, by dsimp only; omega, by dsimp only; omega⟩
 ·(repeat first | exact LE.nil _ | refine LE.unk _ _ ?_ | refine LE.eq _ _ _ rfl ?_)
 ·dsimp only
  (repeat first | exact A5 | (refine A6 ?_ ?_; (first | exact Q0 | (first | (focus (((simp (disch := omega) only [app, upd, hp, if_pos, if_neg])); exact congrArg (fun z => some (Blk.mk (List.map bV z) 1 5)) (show [] = topL x m _ by rw [show ((m : Int) - 1 - ((m : Int) - 1)).toNat = 0 by omega]; rfl)))))))
 ·exact Nat.le_refl _
 intro ⟨i, ln, id, n1⟩ hI ih
 dsimp only at hI ⊢
 refine A3 (st := []) ?_
 refine br ?_ ?_ <;> intro h3_1
 ·refine E2 ⟨by exact N9, by exact N9⟩ ?_
  refine sd (by exact N9) ?_
  refine F2 (es := [[.int _ _]]) j4 kz kb rfl rfl ?_
  (apply eap (s' := 1) (es := [[.int _ _]]) rfl rfl; exact Q0; exact j2; (first | rfl | omega | (rw [List.length_map, hl]; omega) | (rw [List.length_map]; omega)); exact j2; exact kz; exact O8; exact Q7; (first | omega | (focus (simp only [List.length_cons, List.length_nil]; omega)) | exact Nat.le_of_ble_eq_true rfl | ((show (_ + 1) * _ ≤ _); omega) | ((show _ + 1 ≤ _); omega)); (first | omega | (focus (simp only [List.length_cons, List.length_nil]; omega)) | exact Nat.le_of_ble_eq_true rfl | ((show (_ + 1) * _ ≤ _); omega) | ((show _ + 1 ≤ _); omega)))
  refine E2 ⟨by exact N9, by exact N9⟩ ?_
  have hk : ((m : Int) - 1 - (i - 1)).toNat = ((m : Int) - 1 - i).toNat + 1 := by omega
  have hi7 : (m : Int) - 1 - ((((m : Int) - 1 - i).toNat : Nat) : Int) = i := by omega
  have e2 : (topL x m ((m : Int) - 1 - i).toNat).map bV ++ [[.int .u8 (bt8 x i)]] = (topL x m ((m : Int) - 1 - (i - 1)).toNat).map bV := by
   rw [hk, show topL x m (((m : Int) - 1 - i).toNat + 1) = topL x m ((m : Int) - 1 - i).toNat ++ [bt8 x ((m : Int) - 1 - ((((m : Int) - 1 - i).toNat : Nat) : Int))] from rfl, hi7, List.map_append]; rfl
  exact C9 (ih (i - 1, ln + 1, n1 + 1, n1 + 2) ⟨by dsimp only; omega, by dsimp only; omega, by dsimp only; omega⟩ (by dsimp only; omega)) (by (repeat first | exact LE.nil _ | refine LE.unk _ _ ?_ | refine LE.eq _ _ _ rfl ?_)) (by dsimp only; (repeat first | exact A5 | (refine A6 ?_ ?_; (first | exact Q0 | (first | (focus (((simp (disch := omega) only [app, upd, hp, if_pos, if_neg])); exact congrArg (fun z => some (Blk.mk z 1 5)) e2))))))) (Nat.le_refl _)
 ·have e3 : topL x m ((m : Int) - 1 - i).toNat = numL x m := by rw [O6 m hm, show ((m : Int) - 1 - i).toNat = m by omega]
  rw [e3] at *; refine D3 (xs := [.view id 0 ln]) [id] rfl (.cons _ _ _ _ (.one _ _ (snapB (List.mem_singleton.2 rfl) ?_ ?_)) .nil)
  ·exact Q0
  ·rw [C4]; omega
open Go.V
set_option linter.unusedVariables false
set_option linter.unusedSimpArgs false
set_option maxRecDepth 20000
set_option maxHeartbeats 4000000
theorem snapS {h : Heap} {ids : List Nat} {r : Bool} {id m : Nat} {s : ByteArray} (hid : id ∈ ids) (hb : h id = some ⟨s.data.toList.map fun b => [V.int .u8 (b.toNat : Int)], 1, 5⟩) (hm : m = s.size) : Snap h ids r (.view id 0 m) (.sl true ((byt s).map bT)) :=
 snapB hid (hb.trans (by rw [I6])) (hm.trans (E4 s).symm)
theorem numL1 (x : Int) : numL x 1 = [IntKind.u8.wrap x] := by
 rw [O6 1 (by decide), show topL x 1 1 = [bt8 x 0] from rfl, AP]
theorem Hs_eq (t : ByteArray) : Hs t = sha t := by with_unfolding_all rfl
theorem s103s (nn : Bool) (s : ByteArray) (h : s.size ≤ 1000000) : Pure En 226 [.one (.sl nn ((byt s).map bT))] [.one (.str (Hs s))] := by
 have := s103 nn (byt s) (by rw [E4]; exact h) (X2 s)
 rw [X3] at this; rw [Hs_eq]; exact this
theorem X9 (x : Int) (m : Nat) : Nm x m = strOw (numL x m) := by with_unfolding_all rfl
theorem s104 (id : Int) : Pure En 230 [.one (.int .i64 id)] [.one (.str (Hs (lit1 ++ Nm id 1)))] := by
 refine Pure.of_ev (st := []) Tryz.func230 rfl kb ?_
 refine F2 (es := [[.int _ _]]) j4 kz kb rfl rfl ?_
 (apply esg j4; (apply F8 rfl; exact Q0; (first | exact Nat.le_refl _ | omega | (simp; omega)); rfl); (intro s e; cases e); exact (show _ = List.map (fun b => [V.int .u8 b]) [IntKind.u8.wrap id] from rfl))
 refine sd (by (first | omega | assumption | (focus (simp; omega)) | (rw [C7]; show (8 : Nat) + 1 ≤ _; omega))) ?_
 refine ebt j5 ?_
 apply U4 [1] (s103s true (lit1 ++ strOw [IntKind.u8.wrap id]) (by rw [ByteArray.size_append, C7]; show 8 + 1 ≤ _; omega)) rfl rfl rfl
 ·refine SnapL.cons _ _ _ _ (.one _ _ (snapS (List.mem_singleton.2 rfl) ?_ rfl)) SnapL.nil
  exact Q0
 rw [X9, numL1]; exact C2 rfl rfl
theorem byt_app (a b : ByteArray) : byt (a ++ b) = byt a ++ byt b := by simp [byt]
theorem s91 (id : Int) (nn : Bool) (B : List Int) (hL : B.length ≤ 100000) (hB : bytes B) : Pure En 166 [.one (.int .i64 id), .one (.sl nn (B.map bT))] [.one (.str (mk id (strOw B)))] := by
 have e1 : (((Hs (lit1 ++ Nm id 1)).data.toList.map fun b => [V.int .u8 (b.toNat : Int)]).drop 0) ++ ((B.map bT).map fun x => x.map (T.toV false)) = (byt ((Hs (lit1 ++ Nm id 1)) ++ strOw B)).map bV := by
  rw [I6, List.drop_zero, X0, byt_app, X1 hB, List.map_append]
 refine Pure.of_ev (st := []) Tryz.func166 rfl kb ?_
 refine C5 (s104 id) rfl rfl rfl ?_
 refine ebt j5 ?_
 (apply eap (s' := 1) rfl rfl; exact Q0; exact j2; (show 0 + (Hs _).size = List.length _; rw [N5]; omega); exact j2; exact kz; rfl; exact (lenBf false B); (simp only [List.length_map, F9]; omega); (simp only [List.length_map, F9]; omega))
 apply U4 [1] (s103s true ((Hs (lit1 ++ Nm id 1)) ++ strOw B) (by rw [ByteArray.size_append, F9, C7]; omega)) rfl rfl rfl
 ·refine SnapL.cons _ _ _ _ (.one _ _ (snapB (List.mem_singleton.2 rfl) ?_ ?_)) SnapL.nil
  ·(first | ((simp (disch := omega) only [↓app0, ↓appC, ↓updS, ↓updN, ↓hpS, ↓hpN]); exact congrArg (fun z => some (Blk.mk z 1 5)) e1))
  ·rw [E4, ByteArray.size_append, C7, List.length_map, List.length_map]
 refine sd ⟨by (first | omega | assumption | (rw [F9]; omega) | (show (8 : Int) ≤ ((Hs _).size : Int); rw [F9]; omega)), by (first | omega | assumption | (rw [F9]; omega) | (show (8 : Int) ≤ ((Hs _).size : Int); rw [F9]; omega)), by (first | omega | assumption | (rw [F9]; omega) | (show (8 : Int) ≤ ((Hs _).size : Int); rw [F9]; omega))⟩ ?_
 exact C2 rfl rfl
open Go.V
set_option linter.unusedVariables false
set_option linter.unusedSimpArgs false
set_option maxRecDepth 20000
set_option maxHeartbeats 4000000
noncomputable def bare (m : Msg) : ByteArray := Nm m.kd 1 ++ Nm m.vw 1 ++ Nm m.sq 1 ++ Nm m.fr 1 ++ Nm m.dg.size 1 ++ m.dg ++ Nm m.bd.size 2 ++ m.bd
theorem bare_size (m : Msg) : (bare m).size = 7 + m.dg.size + m.bd.size := by unfold bare; simp only [ByteArray.size_append, G2]; omega
theorem Msg.OK.dz {m : Msg} (h : m.OK) : m.dg.size ≤ 32 := by
 have e := h.2.2.2.2.2
 split at e
 ·omega
 ·rw [e.2]; exact Nat.zero_le _
def litB : ByteArray := ⟨#[98, 97, 116, 99, 104]⟩
noncomputable def dgB (b : ByteArray) : ByteArray := Hs (litB ++ b)
def litC : ByteArray := ⟨#[99, 108, 111, 99, 107]⟩
noncomputable def rdM (fr vl : Int) : ByteArray := mk fr (litC ++ Nm vl 4)
noncomputable instance dcSg (n : Int) (m : Msg) : Decidable (nodes n ∧ sgd mk bare n m) := Classical.propDecidable _
theorem s138 (m : Msg) (hd : m.dg.size ≤ 1000) (hb : m.bd.size ≤ 20000) : Pure En 125 [.agg m.T] [.one (.str (bare m))] := by
 refine Pure.of_ev (st := []) Tryz.func125 rfl kb ?_
 refine A2 ?_
 refine C5 (q37 _ 1 kb) rfl rfl rfl ?_
 refine A2 ?_
 refine C5 (q37 _ 1 kb) rfl rfl rfl ?_
 refine sd (by (simp only [ByteArray.size_append, G2]; omega)) ?_
 refine A2 ?_
 refine C5 (q37 _ 1 kb) rfl rfl rfl ?_
 refine sd (by (simp only [ByteArray.size_append, G2]; omega)) ?_
 refine A2 ?_
 refine C5 (q37 _ 1 kb) rfl rfl rfl ?_
 refine sd (by (simp only [ByteArray.size_append, G2]; omega)) ?_
 refine A2 ?_
 refine C5 (q37 _ 1 kb) rfl rfl rfl ?_
 refine sd (by (simp only [ByteArray.size_append, G2]; omega)) ?_
 refine A2 ?_
 refine sd (by (simp only [ByteArray.size_append, G2]; omega)) ?_
 refine A2 ?_
 refine C5 (q37 _ 2 kb) rfl rfl rfl ?_
 refine sd (by (simp only [ByteArray.size_append, G2]; omega)) ?_
 refine A2 ?_
 refine sd (by (simp only [ByteArray.size_append, G2]; omega)) ?_
 exact C2 rfl rfl
theorem m137 (id : Int) (t : ByteArray) (ht : t.size ≤ 900000) : Pure En 124 [.one (.int .i64 id), .one (.str t)] [.one (.str (mk id t))] := by
 refine Pure.of_ev (st := []) Tryz.func124 rfl kb ?_
 refine C5 (q37 id 1 kb) rfl rfl rfl ?_
 refine sd (by exact Q35) ?_
 refine C5 (q45 (lit1 ++ Nm id 1) (by rw [ByteArray.size_append, G2]; show 8 + 1 ≤ _; omega)) rfl rfl rfl ?_
 refine sd (by exact Q35) ?_
 refine C5 (q45 (Hs (lit1 ++ Nm id 1) ++ t) (by rw [ByteArray.size_append, F9]; omega)) rfl rfl rfl ?_
 refine sd ⟨by exact Q35, by exact Q35, by exact Q35⟩ ?_
 exact C2 rfl rfl
theorem s159 (b : ByteArray) (hb : b.size ≤ 900000) : Pure En 159 [.one (.str b)] [.one (.str (dgB b))] := by
 refine Pure.of_ev (st := []) Tryz.func159 rfl kb ?_
 refine sd (by (first | omega | (show 5 + _ ≤ _; omega))) ?_
 refine C5 (q45 (litB ++ b) (by rw [ByteArray.size_append]; show 5 + _ ≤ _; omega)) rfl rfl rfl ?_
 exact C2 rfl rfl
theorem s276 (fr vl : Int) : Pure En 276 [.one (.int .i64 fr), .one (.int .i64 vl)] [.one (.str (rdM fr vl))] := by
 refine Pure.of_ev (st := []) Tryz.func276 rfl kb ?_
 refine C5 (q37 _ 4 kb) rfl rfl rfl ?_
 refine sd (by (first | omega | (rw [G2]; show 5 + 4 ≤ _; omega))) ?_
 refine C5 (m137 fr (litC ++ Nm vl 4) (by rw [ByteArray.size_append, G2]; show 5 + 4 ≤ _; omega)) rfl rfl rfl ?_
 exact C2 rfl rfl
theorem s55 (n : Int) (m : Msg) : Pure En 50 [.one (.int .i64 n), .agg m.T] [.one (.bool (decide (nodes n ∧ sgd mk bare n m)))] := by
 refine Pure.of_ev (st := []) Tryz.func50 rfl kb ?_
 refine B8 (p22 n) rfl j2 ?_ ?_ <;> intro h1_1
 ·(apply D2 (vs := [.int _ _, .int _ _, .int _ _, .int _ _, .str _, .str _, .str _]) j2; exact Q0; rfl; rfl; exact kb; rfl)
  refine B8 (s136 m) rfl j2 ?_ ?_ <;> intro h1_4
  ·refine A2 ?_
   refine br ?_ ?_ <;> intro h1_10
   ·refine A2 ?_
    refine A2 ?_
    (apply D2 (vs := [.int _ _, .int _ _, .int _ _, .int _ _, .str _, .str _, .str _]) j2; exact Q0; rfl; rfl; exact kb; rfl)
    refine C5 (s138 m (by have := h1_4.dz; omega) h1_4.2.2.2.2.1) rfl rfl rfl ?_
    refine C5 (m137 m.fr (bare m) (by rw [bare_size]; have := h1_4.dz; have := h1_4.2.2.2.2.1; omega)) rfl rfl rfl ?_
    refine br ?_ ?_ <;> intro h1_20
    ·first
     | (refine C3 rfl ?_; exact ⟨by assumption, by assumption, by assumption, by assumption⟩)
     | (refine B7 rfl ?_; rintro ⟨q1, q2, q3, q4⟩; first | exact absurd q1 (by assumption) | exact absurd q2 (by assumption) | exact absurd q3 (by assumption) | exact absurd q4 (by assumption))
    ·first
     | (refine C3 rfl ?_; exact ⟨by assumption, by assumption, by assumption, by assumption⟩)
     | (refine B7 rfl ?_; rintro ⟨q1, q2, q3, q4⟩; first | exact absurd q1 (by assumption) | exact absurd q2 (by assumption) | exact absurd q3 (by assumption) | exact absurd q4 (by assumption))
   ·first
    | (refine C3 rfl ?_; exact ⟨by assumption, by assumption, by assumption, by assumption⟩)
    | (refine B7 rfl ?_; rintro ⟨q1, q2, q3, q4⟩; first | exact absurd q1 (by assumption) | exact absurd q2 (by assumption) | exact absurd q3 (by assumption) | exact absurd q4 (by assumption))
  ·first
   | (refine C3 rfl ?_; exact ⟨by assumption, by assumption, by assumption, by assumption⟩)
   | (refine B7 rfl ?_; rintro ⟨q1, q2, q3, q4⟩; first | exact absurd q1 (by assumption) | exact absurd q2 (by assumption) | exact absurd q3 (by assumption) | exact absurd q4 (by assumption))
 ·first
  | (refine C3 rfl ?_; exact ⟨by assumption, by assumption, by assumption, by assumption⟩)
  | (refine B7 rfl ?_; rintro ⟨q1, q2, q3, q4⟩; first | exact absurd q1 (by assumption) | exact absurd q2 (by assumption) | exact absurd q3 (by assumption) | exact absurd q4 (by assumption))
end Go.Proofs.YteifdelnahccjaaGreatDoor
namespace Go.Proofs
open Go.RowKit Go.Maps Go.Sort Go.Shelf
set_option linter.unusedVariables false
theorem Tryz.sortsA (m : Nat) : AnyZI.SortsIn Tryz.prog Tryz.sortedA_ren Fence.wide m :=
 ⟨fun blk off cap ss W hH hblk hsz => callsIn_wide.2 (AnyM.slices_Sort_int Tryz.sortA blk off cap ss W hH hblk hsz),
  fun p cap W => callsIn_wide.2 (AnyM.slices_Sort_int_none Tryz.sortA p cap W)⟩
def Tryz.upto (f : Nat → Int) (k : Nat) : List Int := (List.range k).map f
theorem Tryz.upto_succ (f : Nat → Int) (k : Nat) : Tryz.upto f (k + 1) = Tryz.upto f k ++ [f k] := by simp [Tryz.upto, List.range_succ]
theorem Tryz.upto_length (f : Nat → Int) (k : Nat) : (Tryz.upto f k).length = k := by simp [Tryz.upto]
set_option maxRecDepth 100000 in
set_option maxHeartbeats 2000000 in
theorem Tryz.vals1_in (n : Nat) (hn : 1 ≤ n) (l Bs n₀ b off len cap : Nat) (zs : List Int) (w0 : World) (hreach : len * 8 ≤ 140737488351232) (hb : b < n₀) (J : List Int → World → Prop)
  (hJB : ∀ ss W, J ss W → Below n₀ w0 W) (hc : ∀ j, j < len → w0.cell? ⟨b, off + j, none⟩ = some (.int .i64 (zs[j]?.getD 0)))
  (hY : ∀ pre x W, J pre W → pre.length < len → YieldAt Fence.wide (n - 1) Tryz.prog l #[.int .i64 x] W fun e W' => e = .returned (.bool true) ∧ J (pre ++ [x]) W' ∧ KeepsWalks W W')
  (W : World) (hBs : W.cell? ⟨Bs, 0, none⟩ = some (.slice (some ⟨b, off, none⟩) len cap)) (h0 : J [] W) :
  CallsIn Fence.wide n Tryz.prog 320 #[.func (.yield l) #[] #[], .pointer (some ⟨Bs, 0, none⟩)] W fun e W' => (∃ v, e = .returned v) ∧ J (Tryz.upto (fun j => zs[j]?.getD 0) len) W' := by
 refine callsIn_of_wp Tryz.func320 rfl trivial ?_ rfl
 simp only [Tryz.ntmps320, List.size_toArray, List.length_cons, List.length_nil, Nat.reduceAdd, Nat.reduceSub, Array.replicate_succ, Array.replicate_zero, List.push_toArray, List.append_toArray, List.nil_append, List.cons_append]
 gi_wp2
 gi_loopw [7] (fun i wr => ∃ k : Nat, k ≤ len ∧ i = .int .i64 k ∧ J (Tryz.upto (fun j => zs[j]?.getD 0) k) wr)
  (fun i _ => len - (intOf i).toNat)
 case atStart => exact ⟨0, Nat.zero_le _, rfl, h0⟩
 case round =>
  obtain ⟨k, hk, rfl, hJs⟩ := hrel
  have hnx := hJB _ _ hJs
  have hcx : k < len → wr.cell? ⟨b, off + k, none⟩ = some (.int .i64 (zs[k]?.getD 0)) := fun h => (hnx.cell (p := ⟨b, off + k, none⟩) hb).trans (hc k h)
  by_cases hlt : k < len
  ·obtain ⟨fn, tmps, assign, body, hy, hR⟩ := hY _ (zs[k]?.getD 0) wr hJs (by rw [Tryz.upto_length]; exact hlt)
   have hcx' := hcx hlt
   gi_wp2
   refine hR.mono ?_
   rintro e W3 ⟨rfl, hJ3, hk3⟩
   gi_wp2
   go_roundw
   case rel => exact ⟨k + 1, by omega, by simp, by rw [Tryz.upto_succ]; exact hJ3⟩
   case measure => simp [intOf]; omega
  ·obtain rfl : k = len := by omega
   gi_wp2
   go_end0
   exact ⟨⟨_, rfl⟩, hJs⟩
theorem Tryz.upto_all (zs : List Int) : Tryz.upto (fun j => zs[j]?.getD 0) zs.length = zs := by
 apply List.ext_getElem
 ·simp [Tryz.upto]
 ·intro i h1 h2
  simp [Tryz.upto, h2]
set_option maxRecDepth 100000 in
set_option maxHeartbeats 2000000 in
theorem Tryz.appendVals_in (n : Nat) (hn : 2 ≤ n) (Bs b off cap : Nat) (zs : List Int) (hN : zs.length ≤ maxLen) (hNb : zs.length * 8 ≤ 140737488351232) (w : World)
  (hBs : w.cell? ⟨Bs, 0, none⟩ = some (.slice (some ⟨b, off, none⟩) zs.length cap)) (hBl : Bs < w.heap.size) (hb : b < w.heap.size) (hc : ∀ j, j < zs.length → w.cell? ⟨b, off + j, none⟩ = some (.int .i64 (zs[j]?.getD 0))) :
  CallsIn Fence.wide n Tryz.prog 324 #[.slice none 0 0, .func (.func 320) #[] #[.pointer (some ⟨Bs, 0, none⟩)]] w fun e w' => ∃ (v : Value), e = .returned v ∧ w'.ownsRow w.heap.size 3 1 v zs.length (zs.map encZ) ∧ (v = .slice none 0 0 ↔ zs = []) ∧ Below w.heap.size w w' := by
 have h1 : 1 ≤ n := by omega
 refine callsIn_of_wp_marks Tryz.func324 rfl trivial ?_ rfl
 simp only [Tryz.ntmps324, List.size_toArray, List.length_cons, List.length_nil, Nat.reduceAdd, Nat.reduceSub, Array.replicate_succ, Array.replicate_zero, List.push_toArray, List.append_toArray, List.nil_append, List.cons_append]
 gi_wp2
 refine wpIn_rangeFunc ?_
 intro fn hfn
 rw [show Fence.wide.round = none from rfl]
 obtain ⟨W0, hW0⟩ : ∃ W0, w.alloc (.cells #[.slice none 0 0] 39) = W0 := ⟨_, rfl⟩
 have hs0 : W0.heap.size = w.heap.size + 1 := by rw [← hW0]; simp
 have hv0 : W0.heap[w.heap.size]? = some (.cells #[.slice none 0 0] 39 (0, 0)) := by rw [← hW0]; exact World.alloc_heap_new w _
 have hb0 : Below w.heap.size w W0 := by rw [← hW0]; exact (Below.refl _ w).alloc (Nat.le_refl _) _
 rw [hW0]
 obtain ⟨sv, hsv⟩ : ∃ sv, Value.func (.func 320) #[] #[.pointer (some ⟨Bs, 0, none⟩)] = sv := ⟨_, rfl⟩
 obtain ⟨W1, hW1⟩ : ∃ W1, (W0.alloc (.deferred (some []))).alloc (.loop (AnyZI.apRec Tryz.sortedA_ren fn sv w.heap.size W0.heap.size .ready none)) = W1 := ⟨_, rfl⟩
 have hold : ∀ k, k < W0.heap.size → W1.heap[k]? = W0.heap[k]? := fun k hk => by
  rw [← hW1]; exact (Below.heap_alloc _ _ k (by simp; omega)).trans (Below.heap_alloc _ _ k hk)
 have hb1 : Below w.heap.size w W1 := by rw [← hW1]; exact (hb0.alloc hb0.size _).alloc (by have := hb0.size; simp; omega) _
 have hs1 : W1.heap.size = W0.heap.size + 2 := by rw [← hW1]; simp
 have hM : AnyZI.ApAt Tryz.sortedA_ren w fn sv w.heap.size (W0.heap.size + 1) W0.heap.size [] W1 :=
  ⟨⟨_, (hold w.heap.size (by omega)).trans hv0, ⟨rfl, .inl ⟨rfl, rfl⟩⟩, by simp⟩,
   by rw [← hW1]; have := World.alloc_heap_new (W0.alloc (.deferred (some []))) (.loop (AnyZI.apRec Tryz.sortedA_ren fn sv w.heap.size W0.heap.size .ready none)); rwa [World.size_alloc] at this,
   by rw [← hW1]; exact (Below.heap_alloc _ _ _ (by simp)).trans (World.alloc_heap_new W0 _), hb1⟩
 refine ⟨W0.heap.size + 1, [{ target := .collected W0.heap.size, args := #[] }], W1, { target := .fn (.func 320) #[.pointer (some ⟨Bs, 0, none⟩)], args := #[.func (.yield (W0.heap.size + 1)) #[] #[]] }, W1, 320,
  #[.func (.yield (W0.heap.size + 1)) #[] #[]] ++ #[.pointer (some ⟨Bs, 0, none⟩)], W1, ?_, ?_, ?_, ?_, fun _ => h1, ?_⟩
 ·rw [← hW1, ← hsv]; exact run_enterLoop_outer _ _ _ _ _
 ·simp [resolve, go_sem]
 ·intro f' hf'; trivial
 ·simp [invoke, go_sem]
 ·refine (Tryz.vals1_in (n - 1) (by omega) (W0.heap.size + 1) Bs w.heap.size b off zs.length cap zs w hNb hb (AnyZI.ApAt Tryz.sortedA_ren w fn sv w.heap.size (W0.heap.size + 1) W0.heap.size) (fun ss W h => h.below) hc
   (fun pre x W hJ hl => AnyZI.apYield { Tryz.sortedA with } Fence.wide (n - 1 - 1) w fn hfn _ w.heap.size (W0.heap.size + 1) W0.heap.size (by omega) (by omega) (by omega) (Nat.le_refl _) (by omega) zs.length hN (by omega) pre x W hJ hl) W1 ((hb1.cell (p := ⟨Bs, 0, none⟩) hBl).trans hBs) hM).mono ?_
  rintro e W2 ⟨⟨v0, rfl⟩, h2⟩
  rw [Tryz.upto_all] at h2
  obtain ⟨v, hv, hrow, hnil⟩ := h2.box
  have hend := run_endLoop (P := Tryz.prog) h2.L (by simp [AnyZI.apRec])
  obtain ⟨W3, hW3⟩ : ∃ W3, W2.putObj (W0.heap.size + 1) (.loop { AnyZI.apRec Tryz.sortedA_ren fn sv w.heap.size W0.heap.size .ready none with state := .exhausted }) = W3 := ⟨_, rfl⟩
  rw [hW3] at hend
  have hg3 : W2.grownBy W3 (some (W0.heap.size + 1)) := by rw [← hW3]; exact grownBy_putObj_a _ _ _
  have hv3 : W3.heap[w.heap.size]? = some (.cells #[v] 39 (0, 0)) := by rw [← hW3]; exact (World.putObj_heap_other (by omega)).trans hv
  have hK3 : W3.heap[W0.heap.size]? = some (.deferred (some [])) := by rw [← hW3]; exact (World.putObj_heap_other (by omega)).trans h2.K
  have hrow3 := hrow.kept hg3 (ownsRow_ne_a hrow h2.L (fun cur e => by cases e))
  have hb3 : Below w.heap.size w W3 := h2.below.grown hg3 h2.below.size (fun k e => by cases e; omega)
  obtain ⟨hc3, hf3⟩ := cell_of_box_a hv3
  clear hW3
  refine ⟨none, W3, hend, ?_⟩
  gi_wp2
  rw [← hs0]
  refine ⟨by simp, .inl ⟨_, _, rfl, run_takeDeferred hK3, ?_⟩⟩
  exact ⟨_, results_tmp rfl _ _ _, v, rfl, hrow3.kept (grownBy_putObj_a _ _ _) (ownsRow_ne_a hrow3 hK3 (fun cur e => by cases e)), hnil, hb3.grown (grownBy_putObj_a _ _ _) hb3.size (fun k e => by cases e; omega)⟩
set_option maxHeartbeats 1000000 in
theorem Tryz.collectVals_in (n : Nat) (hn : 3 ≤ n) (Bs b off cap : Nat) (zs : List Int) (hN : zs.length ≤ maxLen) (hNb : zs.length * 8 ≤ 140737488351232) (w : World)
  (hBs : w.cell? ⟨Bs, 0, none⟩ = some (.slice (some ⟨b, off, none⟩) zs.length cap)) (hBl : Bs < w.heap.size) (hb : b < w.heap.size) (hc : ∀ j, j < zs.length → w.cell? ⟨b, off + j, none⟩ = some (.int .i64 (zs[j]?.getD 0))) :
  CallsIn Fence.wide n Tryz.prog 318 #[.func (.func 320) #[] #[.pointer (some ⟨Bs, 0, none⟩)]] w fun e w' => ∃ (v : Value), e = .returned v ∧ w'.ownsRow w.heap.size 3 1 v zs.length (zs.map encZ) ∧ (v = .slice none 0 0 ↔ zs = []) ∧ Below w.heap.size w w' := by
 have h1 : 1 ≤ n := by omega
 have cA := Tryz.appendVals_in (n - 1) (by omega) Bs b off cap zs hN hNb w hBs hBl hb hc
 have hf : Fence.wide.fn 324 := trivial
 refine callsIn_of_wp Tryz.func318 rfl trivial ?_ rfl
 simp only [Tryz.ntmps318, List.size_toArray, List.length_cons, List.length_nil, Nat.reduceAdd, Nat.reduceSub, Array.replicate_succ, Array.replicate_zero, List.push_toArray, List.append_toArray, List.nil_append, List.cons_append]
 gi_wp2_with (gi_at_call 324; refine cA.mono ?_; rintro e w' ⟨v, rfl, hrow, hnil, hb⟩)
 go_ret
 exact ⟨v, rfl, hrow, hnil, hb⟩
set_option maxRecDepth 100000 in
set_option maxHeartbeats 2000000 in
theorem Tryz.sortedVals_in (n : Nat) (hn : 4 ≤ n) (Bs b off cap : Nat) (zs : List Int) (hz : zs ≠ []) (hN : zs.length ≤ maxLen) (hNb : zs.length * 8 ≤ 140737488351232) (w : World)
  (hBs : w.cell? ⟨Bs, 0, none⟩ = some (.slice (some ⟨b, off, none⟩) zs.length cap)) (hBl : Bs < w.heap.size) (hb : b < w.heap.size) (hc : ∀ j, j < zs.length → w.cell? ⟨b, off + j, none⟩ = some (.int .i64 (zs[j]?.getD 0))) :
  CallsIn Fence.wide n Tryz.prog 307 #[.func (.func 320) #[] #[.pointer (some ⟨Bs, 0, none⟩)]] w fun e w' => ∃ gb cap', e = .returned (.slice (some ⟨gb, 0, none⟩) zs.length cap') ∧
   w'.ownsRow w.heap.size 3 1 (.slice (some ⟨gb, 0, none⟩) zs.length cap') zs.length ((zs.mergeSort (fun x y => decide (x ≤ y))).map encZ) ∧ Below w.heap.size w w' := by
 have h1 : 1 ≤ n := by omega
 have cC := Tryz.collectVals_in (n - 1) (by omega) Bs b off cap zs hN hNb w hBs hBl hb hc
 have hf : Fence.wide.fn 318 := trivial
 have hf2 : Fence.wide.fn 319 := trivial
 refine callsIn_of_wp Tryz.func307 rfl trivial ?_ rfl
 simp only [Tryz.ntmps307, List.size_toArray, List.length_cons, List.length_nil, Nat.reduceAdd, Nat.reduceSub, Array.replicate_succ, Array.replicate_zero, List.push_toArray, List.append_toArray, List.nil_append, List.cons_append]
 gi_wp2_with (gi_at_call 318; refine cC.mono ?_; rintro e W ⟨v, rfl, hrow, hnil, hb⟩)
 rcases hrow.2 with ⟨rfl, hz2⟩ | ⟨gb, cap2, cur, rfl, hbase, hgb, r1, r2, r3, r4⟩
 ·exact absurd (hnil.1 rfl) hz
 ·have hH : Holds encZ W gb 0 zs.toArray := holds_of_block_i hgb (by simpa using r4)
  have hgl : gb < W.heap.size := (Array.getElem?_eq_some_iff.1 hgb).1
  have hsz : zs.length < 4611686018427387904 := by omega
  have cS := (Tryz.sortsA (n - 1)).1 gb 0 cap2 zs W hH hgl hsz
  change CallsIn _ _ _ 319 _ _ _ at cS
  gi_wp2_with (gi_at_call 319; refine cS.mono ?_; rintro e w' ⟨rfl, nn, os, rfl⟩)
  go_ret
  exact ⟨_, _, rfl, ownsRow_sorted_i (by simp) hbase hgb r1 r2 r3, hb.grown (grownBy_sorted_i _) hb.size (fun j hj => by cases hj; exact hbase)⟩
theorem Tryz.values_in (n : Nat) (a : Option Addr) (len cap : Nat) (w : World) :
  CallsIn Fence.wide n Tryz.prog 308 #[.slice a len cap] w fun e w' => e = .returned (.func (.func 320) #[] #[.pointer (some ⟨w.heap.size, 0, none⟩)]) ∧ w' = w.alloc (.cells #[.slice a len cap] 39) := by
 refine callsIn_of_wp Tryz.func308 rfl trivial ?_ rfl
 simp only [Tryz.ntmps308, List.size_toArray, List.length_cons, List.length_nil, Nat.reduceAdd, Nat.reduceSub, Array.replicate_succ, Array.replicate_zero, List.push_toArray, List.append_toArray, List.nil_append, List.cons_append]
 gi_wp2
 go_ret
 exact ⟨rfl, rfl⟩
def Tryz.med (zs : List Int) : Int := (zs.mergeSort (fun x y => decide (x ≤ y)))[zs.length / 2]?.getD 0
theorem Tryz.row_cell {W : World} {base gb cap : Nat} {zs : List Int} (h : W.ownsRow base 3 1 (.slice (some ⟨gb, 0, none⟩) zs.length cap) zs.length ((zs.mergeSort (fun x y => decide (x ≤ y))).map encZ)) (hz : zs ≠ []) :
  W.cell? ⟨gb, zs.length / 2, none⟩ = some (.int .i64 (Tryz.med zs)) := by
 have hp : 0 < zs.length := List.length_pos_iff.2 hz
 rcases h.2 with ⟨e, _⟩ | ⟨g, cap2, cur, e, hbase, hgb, r1, r2, r3, r4⟩
 ·cases e
 ·cases e
  have hH : Holds encZ W gb 0 (zs.mergeSort (fun x y => decide (x ≤ y))).toArray := holds_of_block_i hgb (by simpa using r4)
  have := (hH (zs.length / 2) (by simp; omega)).1
  rw [Nat.zero_add] at this
  rw [this]
  unfold Tryz.med encZ
  simp
set_option maxRecDepth 100000 in
set_option maxHeartbeats 2000000 in
theorem Tryz.median_in (n : Nat) (hn : 5 ≤ n) (b off cap : Nat) (zs : List Int) (hz : zs ≠ []) (hN : zs.length ≤ 1048576) (w : World)
  (hb : b < w.heap.size) (hc : ∀ j, j < zs.length → w.cell? ⟨b, off + j, none⟩ = some (.int .i64 (zs[j]?.getD 0))) :
  CallsIn Fence.wide n Tryz.prog 277 #[.slice (some ⟨b, off, none⟩) zs.length cap] w fun e w' => e = .returned (.int .i64 (Tryz.med zs)) ∧ Below w.heap.size w w' := by
 have h1 : 1 ≤ n := by omega
 have hp : 0 < zs.length := List.length_pos_iff.2 hz
 have hB0 : Below w.heap.size w (w.alloc (.cells #[.slice (some ⟨b, off, none⟩) zs.length cap] 39)) := (Below.refl _ w).alloc (Nat.le_refl _) _
 have bN := Boxed.new w 39 (.slice (some ⟨b, off, none⟩) zs.length cap)
 have cV := Tryz.values_in (n - 1) (some ⟨b, off, none⟩) zs.length cap w
 have cS := Tryz.sortedVals_in (n - 1) (by omega) w.heap.size b off cap zs hz (Nat.le_trans hN (by decide)) (by omega) (w.alloc (.cells #[.slice (some ⟨b, off, none⟩) zs.length cap] 39)) bN.cell (by simp) (by simp; omega) (fun j hj => (hB0.cell (p := ⟨b, off + j, none⟩) hb).trans (hc j hj))
 have hf : Fence.wide.fn 308 := trivial
 have hf2 : Fence.wide.fn 307 := trivial
 refine callsIn_of_wp Tryz.func277 rfl trivial ?_ rfl
 simp only [Tryz.ntmps277, List.size_toArray, List.length_cons, List.length_nil, Nat.reduceAdd, Nat.reduceSub, Array.replicate_succ, Array.replicate_zero, List.push_toArray, List.append_toArray, List.nil_append, List.cons_append]
 gi_wp2_with (first
  | (gi_at_call 308; refine cV.mono ?_; rintro e w' ⟨rfl, rfl⟩)
  | (gi_at_call 307; refine cS.mono ?_; rintro e w' ⟨gb, cap', rfl, hrow, hbb⟩; have hcell := Tryz.row_cell hrow hz))
 go_ret
 exact ⟨rfl, hB0.trans (hbb.mono (by simp))⟩
end Go.Proofs
namespace Go.Proofs.YteifdelnahccjaaGreatDoor
open Go.V
def iT (x : Int) : List V.T := [.int .i64 x]
theorem s277 (L : List Int) (nn : Bool) (hne : L ≠ []) (hL : L.length ≤ 1048576) : V.Pure En 277 [.one (.sl nn (L.map iT))] [.one (.int .i64 (Tryz.med L))] := by
 unfold V.Pure
 refine ⟨by kernel_rfl, fun I w vs hI hG hlen har => ?_⟩
 obtain ⟨v, rfl⟩ : ∃ v, vs = #[v] := by
  match vs, hlen with
  | ⟨[v]⟩, _ => exact ⟨v, rfl⟩
 have h0 := har 0 _ v rfl rfl
 cases h0 with
 | one x v h =>
  cases h with
  | sl _ _ a len cap sz rd hle hcap hnil hI2 hsz hrd hsub =>
   have hl2 : len = L.length := by rw [hle, List.length_map]
   subst hl2
   have hne2 : L.map iT ≠ [] := by simpa using hne
   match a, hnil, hI2, hrd with
   | none, hnil, _, _ => exact absurd (hnil rfl).2.1 hne2
   | some ⟨blk, off, spot⟩, _, hI2, hrd =>
    obtain ⟨e1, e2⟩ := hI2 _ rfl hne2
    dsimp only at e1 e2
    subst e1
    have h1 : sz = 1 := by
     match L, hne with
     | x :: r, _ => exact (hsz (iT x) (by simp)).symm
    subst h1
    have hc : ∀ j, j < L.length → w.cell? ⟨blk, off + j, none⟩ = some (.int .i64 (L[j]?.getD 0)) := fun j hj => by
     have hg : get2 (L.map iT) j 0 = some (.int .i64 (L[j]?.getD 0)) := by
      unfold get2; rw [List.getElem?_map, List.getElem?_eq_getElem hj]; rfl
     have q1 := hrd _ j 0 _ rfl hg
     have q2 := hsub j 0 _ hg
     generalize rd j 0 = z at q1 q2
     cases q2
     simpa using q1
    refine (callsIn_wide.1 (Tryz.median_in 5 (Nat.le_refl _) blk off cap L hne hL w (hI _ e2) hc)).mono ?_
    rintro e w' ⟨rfl, hb⟩
    exact ⟨_, rfl, hb, .one _ _ (.one _ _ (.int _ _))⟩
open Go.V
set_option linter.unusedVariables false
set_option linter.unusedSimpArgs false
set_option maxRecDepth 20000
set_option maxHeartbeats 4000000
noncomputable def pix {α : Type} (P : α → Prop) : List α → Nat → Int
 | [], _ => -1
 | s :: r, k => haveI := Classical.propDecidable (P s); if P s then k else pix P r (k + 1)
theorem pix_y {α : Type} {P : α → Prop} {d : α} {L : List α} {i : Nat} (h : i < L.length) (hp : P (L.getD i d)) : pix P (L.drop i) i = (i : Int) := by
 rw [show L.getD i d = L[i] by simp [h]] at hp
 rw [List.drop_eq_getElem_cons h]
 unfold pix
 rw [if_pos hp]
theorem pix_n {α : Type} {P : α → Prop} {d : α} {L : List α} {i : Nat} (h : i < L.length) (hp : ¬ P (L.getD i d)) : pix P (L.drop i) i = pix P (L.drop (i + 1)) (i + 1) := by
 rw [show L.getD i d = L[i] by simp [h]] at hp
 conv => lhs; rw [List.drop_eq_getElem_cons h]
 conv => lhs; unfold pix
 rw [if_neg hp]
theorem pix_end {α : Type} {P : α → Prop} {L : List α} {i : Nat} (h : L.length ≤ i) : pix P (L.drop i) i = -1 := by rw [List.drop_eq_nil_of_le h]; rfl
theorem L5 {α : Type} {P : α → Prop} : ∀ (L : List α) (k : Nat), 0 ≤ pix P L k ↔ ∃ x ∈ L, P x
 | [], k => ⟨fun h => by have q : (0 : Int) ≤ -1 := h; omega, fun ⟨x, hx, _⟩ => by cases hx⟩
 | s :: r, k => by
  unfold pix
  by_cases c : P s
  ·rw [if_pos c]; exact ⟨fun _ => ⟨s, List.mem_cons_self .., c⟩, fun _ => by omega⟩
  ·rw [if_neg c, L5 r (k + 1)]
   exact ⟨fun ⟨x, hx, h⟩ => ⟨x, List.mem_cons_of_mem _ hx, h⟩, fun ⟨x, hx, h⟩ => by
    rcases List.mem_cons.1 hx with e | e
    ·rw [e] at h; exact absurd h c
    ·exact ⟨x, e, h⟩⟩
noncomputable instance dcEx (L : List Msg) (d : ByteArray) : Decidable (∃ x ∈ L, x.dg ≠ d) := Classical.propDecidable _
def arS (n kd vw sq : Int) (L : List Msg) (i : Nat) : Prop := (L.getD i Msg0).kd = kd ∧ (L.getD i Msg0).vw = vw ∧ (L.getD i Msg0).sq = sq ∧ (nodes n ∧ sgd mk bare n (L.getD i Msg0)) ∧ (0 < i → (L.getD (i - 1) Msg0).fr < (L.getD i Msg0).fr)
noncomputable instance dcAr (n kd vw sq : Int) (L : List Msg) : Decidable (∀ i, i < L.length → arS n kd vw sq L i) := Classical.propDecidable _
theorem s140 (n : Int) (hn : nodes n) : Pure En 140 [.one (.int .i64 n)] [.one (.int .i64 (quo n))] := by
 rcases hn with rfl | rfl | rfl
 all_goals
  refine Pure.of_ev (st := []) Tryz.func140 rfl kb ?_
  refine C1 ?_
  refine C0 ?_
  refine C1 ?_
  refine C1 ?_
  exact C2 rfl rfl
theorem s84 (c : Ct) (b : Bool) (hc : 0 < c.ps.length) : Pure En 84 [.agg (c.T b)] [.one (.int .i64 c.sq)] := by
 have hl : (c.ps.map Msg.T).length = c.ps.length := List.length_map ..
 refine Pure.of_ev (st := []) Tryz.func84 rfl kb ?_
 refine A2 ?_
 (refine C0 (D1 (by first | rfl | assumption | (exact A7 Msg.T Msg0 (k := 0) hc)) rfl ?_))
 exact C2 rfl rfl
theorem s85 (c : Ct) (b : Bool) (hc : 0 < c.ps.length) : Pure En 85 [.agg (c.T b)] [.one (.int .i64 c.vw)] := by
 have hl : (c.ps.map Msg.T).length = c.ps.length := List.length_map ..
 refine Pure.of_ev (st := []) Tryz.func85 rfl kb ?_
 refine A2 ?_
 (refine C0 (D1 (by first | rfl | assumption | (exact A7 Msg.T Msg0 (k := 0) hc)) rfl ?_))
 exact C2 rfl rfl
theorem o160 (m : Msg) (d : ByteArray) {id : Nat} {h : Heap} {n : Nat} (hid : id < n) (hh : h id = some ⟨[[.str d]], 1, 9⟩) : V.Open En 160 [.agg m.V, .ptr id 0 0] h n (.bool (decide (m.dg ≠ d))) [] (n + 1) := by
 refine V.Open.of_ev (st := []) Tryz.func160 rfl kb ?_
 refine A2 ?_
 refine A2 ?_
 refine br ?_ ?_ <;> intro h1_3
 ·first
   | (rw [decide_eq_true (by assumption)]; exact fiO rfl rfl (leWr (fun j hj => absurd hj List.not_mem_nil) (fun j hj hn => by simp (disch := omega) only [↓app0, ↓appC, ↓updS, ↓updN])) (Nat.le_refl _))
   | (rw [decide_eq_false (by assumption)]; exact fiO rfl rfl (leWr (fun j hj => absurd hj List.not_mem_nil) (fun j hj hn => by simp (disch := omega) only [↓app0, ↓appC, ↓updS, ↓updN])) (Nat.le_refl _))
 ·first
   | (rw [decide_eq_true (by assumption)]; exact fiO rfl rfl (leWr (fun j hj => absurd hj List.not_mem_nil) (fun j hj hn => by simp (disch := omega) only [↓app0, ↓appC, ↓updS, ↓updN])) (Nat.le_refl _))
   | (rw [decide_eq_false (by assumption)]; exact fiO rfl rfl (leWr (fun j hj => absurd hj List.not_mem_nil) (fun j hj hn => by simp (disch := omega) only [↓app0, ↓appC, ↓updS, ↓updN])) (Nat.le_refl _))
theorem o170 (fr b : Bool) (L : List Msg) (d : ByteArray) (hL : L.length ≤ 1048576) {id : Nat} {h : Heap} {n : Nat} (hid : id < n) (hh : h id = some ⟨[[.str d]], 1, 9⟩) : V.Open En 170 [.sl fr b (L.map Msg.T), .clo 160 [.ptr id 0 0]] h n (.int .i64 (pix (fun x : Msg => x.dg ≠ d) L 0)) [] (n + L.length) := by
 have hl : (L.map Msg.T).length = L.length := List.length_map ..
 refine V.Open.of_ev (st := []) Tryz.func170 rfl kb ?_
 refine A9 (fun (a : Nat × Nat) => [.sl fr b (L.map Msg.T), .clo 160 [.ptr id 0 0], .unk, .unk, .unk, .unk, .unk, .int .i64 (L.map Msg.T).length, .int .i64 a.1]) (fun (a : Nat × Nat) => h) (fun (a : Nat × Nat) => a.2) (fun (a : Nat × Nat) => a.1 ≤ L.length ∧ pix (fun x : Msg => x.dg ≠ d) (L.drop a.1) a.1 = pix (fun x : Msg => x.dg ≠ d) L 0 ∧ n + a.1 = a.2) (fun (a : Nat × Nat) => L.length - a.1) (0, n) ?_ ?_ ?_ ?_ ?_
 ·exact ⟨Nat.zero_le _, rfl, rfl⟩
 ·(repeat first | exact LE.nil _ | refine LE.unk _ _ ?_ | refine LE.eq _ _ _ rfl ?_)
 ·exact LessH.refl _
 ·exact Nat.le_refl _
 intro ⟨i, m⟩ hI ih
 obtain ⟨q0, q1, q2⟩ := hI
 dsimp only at q0 q1 q2 ⊢
 refine A3 (st := []) ?_
 refine br ?_ ?_ <;> intro h2_0
 ·(refine C0 (D1 (by first | rfl | assumption | (exact A7 Msg.T Msg0 (k := i) (by omega))) rfl ?_))
  refine U5 (o160 (L.getD i Msg0) d (n := m) (by omega) hh) rfl j2 ?_ ?_
  all_goals intro h4_5
  ·rw [← q1, pix_y (d := Msg0) (L := L) (i := i) (by omega) (of_decide_eq_true h4_5)]; exact fiO rfl rfl (fun _ _ _ e => e) (by omega)
  ·refine C1 ?_
   have e1 := (pix_n (P := fun x : Msg => x.dg ≠ d) (d := Msg0) (L := L) (i := i) (by omega) (of_decide_eq_false h4_5)).symm.trans q1
   exact C9 (ih (i + 1, m + 1) ⟨by dsimp only; omega, e1, by dsimp only; omega⟩ (by dsimp only; omega)) (by (repeat first | exact LE.nil _ | refine LE.unk _ _ ?_ | refine LE.eq _ _ _ rfl ?_)) (LessH.refl _) (Nat.le_refl _)
 ·rw [← q1, pix_end (L := L) (i := i) (by omega)]; exact fiO rfl rfl (fun _ _ _ e => e) (by omega)
theorem o98 (fr b : Bool) (L : List Msg) (d : ByteArray) (hL : L.length ≤ 1048576) {id : Nat} {h : Heap} {n : Nat} (hid : id < n) (hh : h id = some ⟨[[.str d]], 1, 9⟩) : V.Open En 98 [.sl fr b (L.map Msg.T), .clo 160 [.ptr id 0 0]] h n (.bool (decide (∃ x ∈ L, x.dg ≠ d))) [] (n + L.length) := by
 refine V.Open.of_ev (st := []) Tryz.func98 rfl kb ?_
 refine O3 (o170 fr b L d hL hid hh) rfl rfl rfl ?_
 refine br ?_ ?_ <;> intro h1_3
 ·first
  | (rw [decide_eq_true ((L5 L 0).1 (by omega))]; exact fiO rfl rfl (fun _ _ _ e => e) (Nat.le_refl _))
  | (rw [decide_eq_false (fun q => by have := (L5 (P := fun x : Msg => x.dg ≠ d) L 0).2 q; omega)]; exact fiO rfl rfl (fun _ _ _ e => e) (Nat.le_refl _))
 ·first
  | (rw [decide_eq_true ((L5 L 0).1 (by omega))]; exact fiO rfl rfl (fun _ _ _ e => e) (Nat.le_refl _))
  | (rw [decide_eq_false (fun q => by have := (L5 (P := fun x : Msg => x.dg ≠ d) L 0).2 q; omega)]; exact fiO rfl rfl (fun _ _ _ e => e) (Nat.le_refl _))
theorem s158 (n kd vw sq : Int) (L : List Msg) (b : Bool) (hL : L.length ≤ 1048576) : Pure En 158 [.one (.int .i64 n), .one (.sl b (L.map Msg.T)), .one (.int .i64 kd), .one (.int .i64 vw), .one (.int .i64 sq)] [.one (.bool (decide (∀ i, i < L.length → arS n kd vw sq L i)))] := by
 have hl : (L.map Msg.T).length = L.length := List.length_map ..
 refine Pure.of_ev (st := []) Tryz.func158 rfl kb ?_
 refine A9 (fun (a : Nat × Nat) => [.int .i64 n, .sl false b (L.map Msg.T), .int .i64 kd, .int .i64 vw, .int .i64 sq, .unk, .unk, .unk, .unk, .unk, .unk, .unk, .unk, .sl false b (L.map Msg.T), .int .i64 (L.map Msg.T).length, .int .i64 a.1]) (fun (a : Nat × Nat) => fun _ => none) (fun (a : Nat × Nat) => a.2) (fun (a : Nat × Nat) => a.1 ≤ L.length ∧ ∀ j, j < a.1 → arS n kd vw sq L j) (fun (a : Nat × Nat) => L.length - a.1) ⟨0, 0⟩ ?_ ?_ ?_ ?_ ?_
 ·exact ⟨Nat.zero_le _, F6⟩
 ·(repeat first | exact LE.nil _ | refine LE.unk _ _ ?_ | refine LE.eq _ _ _ rfl ?_)
 ·exact LessH.refl _
 ·exact Nat.le_refl _
 intro ⟨i, m⟩ hI ih
 obtain ⟨q0, q1⟩ := hI
 dsimp only at q0 q1 ⊢
 refine A3 (st := []) ?_
 refine br ?_ ?_ <;> intro h2_0
 ·(refine C0 (D1 (by first | rfl | assumption | (first | exact A7 Msg.T Msg0 (k := i) (by omega) | (have e : ((i : Int) - 1).toNat = i - 1 := (by omega); rw [e]; exact A7 Msg.T Msg0 (k := i - 1) (by omega)))) rfl ?_))
  (apply est (u := .agg [.int _ _, .int _ _, .int _ _, .int _ _, .str _, .str _, .str _]) j3; exact Q0; rfl; exact j2; rfl; rfl; exact kb; rfl)
  refine A2 ?_
  refine br ?_ ?_ <;> intro h4_3
  ·refine B7 rfl (fun e => ?_); obtain ⟨e1, e2, e3, e4, e5⟩ := e i (by omega); first | omega | exact h4_19 e4 | (have := e5 (by omega); omega)
  ·refine A2 ?_
   refine br ?_ ?_ <;> intro h4_8
   ·refine B7 rfl (fun e => ?_); obtain ⟨e1, e2, e3, e4, e5⟩ := e i (by omega); first | omega | exact h4_19 e4 | (have := e5 (by omega); omega)
   ·refine A2 ?_
    refine br ?_ ?_ <;> intro h4_14
    ·refine B7 rfl (fun e => ?_); obtain ⟨e1, e2, e3, e4, e5⟩ := e i (by omega); first | omega | exact h4_19 e4 | (have := e5 (by omega); omega)
    ·(apply D2 (vs := [.int _ _, .int _ _, .int _ _, .int _ _, .str _, .str _, .str _]) j2; exact Q0; rfl; rfl; exact kb; rfl)
     refine B8 (s55 n (L.getD i Msg0)) rfl j2 ?_ ?_ <;> intro h4_19
     ·refine br ?_ ?_ <;> intro h4_24
      ·refine C1 ?_
       (refine C0 (D1 (by first | rfl | assumption | (first | exact A7 Msg.T Msg0 (k := i) (by omega) | (have e : ((i : Int) - 1).toNat = i - 1 := (by omega); rw [e]; exact A7 Msg.T Msg0 (k := i - 1) (by omega)))) rfl ?_))
       refine A2 ?_
       refine br ?_ ?_ <;> intro h4_34
       ·refine B7 rfl (fun e => ?_); obtain ⟨e1, e2, e3, e4, e5⟩ := e i (by omega); first | omega | exact h4_19 e4 | (have := e5 (by omega); omega)
       ·refine C1 ?_
        exact C9 (ih ⟨i + 1, m + 1⟩ ⟨by dsimp only; omega, E0 q1 ⟨by omega, by omega, by omega, h4_19, fun _ => by omega⟩⟩ (by dsimp only; omega)) (by (repeat first | exact LE.nil _ | refine LE.unk _ _ ?_ | refine LE.eq _ _ _ rfl ?_)) (by (repeat first | exact A5 | (refine A6 ?_ ?_; exact H3))) (Nat.le_refl _)
      ·refine C1 ?_
       exact C9 (ih ⟨i + 1, m + 1⟩ ⟨by dsimp only; omega, E0 q1 ⟨by omega, by omega, by omega, h4_19, fun _ => by omega⟩⟩ (by dsimp only; omega)) (by (repeat first | exact LE.nil _ | refine LE.unk _ _ ?_ | refine LE.eq _ _ _ rfl ?_)) (by (repeat first | exact A5 | (refine A6 ?_ ?_; exact H3))) (Nat.le_refl _)
     ·refine B7 rfl (fun e => ?_); obtain ⟨e1, e2, e3, e4, e5⟩ := e i (by omega); first | omega | exact h4_19 e4 | (have := e5 (by omega); omega)
 ·exact C3 rfl (fun j hj => q1 j (by omega))
open Go.V
set_option linter.unusedVariables false
set_option linter.unusedSimpArgs false
set_option maxRecDepth 20000
set_option maxHeartbeats 4000000
def iV (x : Int) : List V := [.int .i64 x]
theorem rowsI (L : List Int) : rowsV (L.map iT) = L.map iV := by unfold rowsV; rw [List.map_map]; rfl
def tmR (n : Int) (rs : List Rg) (i : Nat) : Prop := ((rs.getD i Rg0).OK ∧ (rs.getD i Rg0).fr < n ∧ (rs.getD i Rg0).mc = rdM (rs.getD i Rg0).fr (rs.getD i Rg0).vl) ∧ (0 < i → (rs.getD (i - 1) Rg0).fr < (rs.getD i Rg0).fr)
noncomputable instance dcTm (n : Int) (rs : List Rg) : Decidable (timeOK rdM n rs) := Classical.propDecidable _
def vlL (rs : List Rg) : Nat → List Int
 | 0 => []
 | i + 1 => vlL rs i ++ [(rs.getD i Rg0).vl]
theorem U1 (rs : List Rg) : ∀ i, (vlL rs i).length = i
 | 0 => rfl
 | i + 1 => by show (vlL rs i ++ [_]).length = _; rw [List.length_append, U1 rs i]; rfl
theorem vlL_tk {r : List Rg} : ∀ {i : Nat}, i ≤ r.length → vlL r i = (r.take i).map Rg.vl
 | 0, _ => rfl
 | i + 1, h => by
  show vlL r i ++ [(r.getD i Rg0).vl] = _
  rw [vlL_tk (by omega), List.take_succ_eq_append_getElem (by omega), List.map_append, show r.getD i Rg0 = r[i] by simp [show i < r.length by omega]]; rfl
theorem vlL_all (r : List Rg) : vlL r r.length = r.map Rg.vl := by rw [vlL_tk (Nat.le_refl _), List.take_length]
noncomputable def tmX (n : Int) (rs : List Rg) : Int := if timeOK rdM n rs then Tryz.med (rs.map Rg.vl) else 0
theorem S6 {n : Int} (h : nodes n) : 1 ≤ quo n ∧ quo n ≤ 5 := by
 rcases quo_v h with h | h | h <;> omega
structure TS where
 i : Nat
 o : V
 b : Nat
 m : Nat
 g : Heap
structure TI (n : Int) (rs : List Rg) (a : TS) : Prop where
 il : a.i ≤ rs.length
 out : LsOK iV 1 3 0 (vlL rs a.i) a.o a.b a.m a.g
 ok : ∀ j, j < a.i → tmR n rs j
theorem s229 (n : Int) (hn : nodes n) (rs : List Rg) (b : Bool) : Pure En 229 [.one (.int .i64 n), .one (.sl b (rs.map Rg.T))] [.one (.int .i64 (tmX n rs)), .one (.bool (decide (timeOK rdM n rs)))] := by
 have hl : (rs.map Rg.T).length = rs.length := List.length_map ..
 have hq := S6 hn
 refine Pure.of_ev (st := [10]) Tryz.func229 rfl kb ?_
 refine C5 (s140 n hn) rfl rfl rfl ?_
 refine br ?_ ?_ <;> intro h1_4
 ·have hno : ¬ timeOK rdM n rs := fun e => by have := e.1; omega
  rw [show tmX n rs = 0 from if_neg hno, decide_eq_false hno]
  exact C2 rfl rfl
 ·refine A9 (fun (a : TS) => [.int .i64 n, .sl false b (rs.map Rg.T), .unk, .unk, .unk, .unk, a.o, .unk, .unk, .unk, .unk, .unk, .unk, .unk, .sl false b (rs.map Rg.T), .int .i64 (rs.map Rg.T).length, .int .i64 a.i]) (fun (a : TS) => a.g) (fun (a : TS) => a.m) (fun (a : TS) => TI n rs a) (fun (a : TS) => rs.length - a.i) ⟨0, .nsl, 0, 0, fun _ => none⟩ ?_ ?_ ?_ ?_ ?_
  ·exact ⟨Nat.zero_le _, .inl ⟨rfl, rfl⟩, F6⟩
  ·(repeat first | exact LE.nil _ | refine LE.unk _ _ ?_ | refine LE.eq _ _ _ rfl ?_)
  ·exact LessH.refl _
  ·exact Nat.le_refl _
  intro ⟨i, o, bb, m, g⟩ hI ih
  have q0 := hI.il
  have hok := hI.ok
  dsimp only at q0 hok ⊢
  have hrl := U1 rs i
  rcases hI.out with ⟨e0, e1⟩ | ⟨e1, hbO2, hbO⟩
  all_goals dsimp only at e1
  ·skip
   obtain rfl : i = 0 := by rw [e0] at hrl; exact hrl.symm
   subst e1
   refine A3 (st := [10]) ?_
   refine br ?_ ?_ <;> intro h5_0
   ·(refine C0 (D1 (by first | rfl | assumption | (first | exact A7 Rg.T Rg0 (k := 0) (by omega) | (exfalso; omega))) rfl ?_))
    (apply est (u := .agg [.int _ _, .int _ _, .str _]) j3; exact Q0; exact Q4; exact j2; rfl; rfl; exact kb; rfl)
    (apply D2 (vs := [.int _ _, .int _ _, .str _]) j2; exact Q0; exact Q4; rfl; exact kb; rfl)
    refine B8 (s275 (rs.getD 0 Rg0)) rfl j2 ?_ ?_ <;> intro h7_1
    ·refine A2 ?_ (by exact Q0) (by exact Q4)
     refine br ?_ ?_ <;> intro h7_7
     ·have hno : ¬ timeOK rdM n rs := fun e => by
       obtain ⟨⟨e1, e2, e3⟩, e4⟩ := e.2 0 (by omega)
       first
       | exact h7_1 e1
       | omega
       | (have := e4 (by omega); omega)
       | exact h7_32 e3
      rw [show tmX n rs = 0 from if_neg hno, decide_eq_false hno]
      exact C2 rfl rfl
     ·refine br (fun h => absurd h ((by omega))) ?_
      intro h7_11
      refine A2 ?_ (by exact Q0) (by exact Q4)
      refine A2 ?_ (by exact Q0) (by exact Q4)
      refine A2 ?_ (by exact Q0) (by exact Q4)
      refine C5 (s276 _ _) rfl rfl rfl ?_
      refine br ?_ ?_ <;> intro h7_32
      ·have hno : ¬ timeOK rdM n rs := fun e => by
        obtain ⟨⟨e1, e2, e3⟩, e4⟩ := e.2 0 (by omega)
        first
        | exact h7_1 e1
        | omega
        | (have := e4 (by omega); omega)
        | exact h7_32 e3
       rw [show tmX n rs = 0 from if_neg hno, decide_eq_false hno]
       exact C2 rfl rfl
      ·refine A2 ?_ (by exact Q0) (by exact Q4)
       refine F2 (es := [[.int _ _]]) j4 kz kb rfl rfl ?_
       (apply ean (s' := 8) (es := [[.int _ _]]) rfl j3 kz; exact O8; exact Q7; exact Q5; exact Q5; exact Q5)
       refine H2 fun G hG => ?_
       refine C1 ?_
       have hit : tmR n rs 0 := ⟨⟨h7_1, by omega, Classical.not_not.1 h7_32⟩, fun _ => by omega⟩
       refine C9 (ih ⟨0 + 1, .view (m + 1 + 1) 0 1, m + 1 + 1, m + 1 + 1 + 1, G⟩ ⟨by dsimp only; omega, .inr ⟨?_, ?_, by dsimp only; omega, by dsimp only; omega⟩, fun j hj => ?_⟩ (by dsimp only; omega)) (by (repeat first | exact LE.nil _ | refine LE.unk _ _ ?_ | refine LE.eq _ _ _ rfl ?_)) (LessH.refl _) (Nat.le_refl _)
       ·show V.view _ 0 _ = V.view _ 0 (vlL rs 0 ++ [_]).length; rw [List.length_append]; rfl
       ·dsimp only; rw [hG]; show _ = some (Blk.mk ((vlL rs 0 ++ [_]).map iV) 1 3); rw [List.map_append]; exact Q0
       ·rcases Nat.lt_succ_iff_lt_or_eq.1 hj with q | q
        ·exact hok j q
        ·rw [q]; exact hit
    ·have hno : ¬ timeOK rdM n rs := fun e => by
      obtain ⟨⟨e1, e2, e3⟩, e4⟩ := e.2 0 (by omega)
      first
      | exact h7_1 e1
      | omega
      | (have := e4 (by omega); omega)
      | exact h7_32 e3
     rw [show tmX n rs = 0 from if_neg hno, decide_eq_false hno]
     exact C2 rfl rfl
   ·exfalso; omega
  ·skip
   dsimp only at hbO2 hbO
   subst e1
   refine A3 (st := [10]) ?_
   refine br ?_ ?_ <;> intro h5_0
   ·(refine C0 (D1 (by first | rfl | assumption | exact Q31) rfl ?_))
    (apply est (u := .agg [.int _ _, .int _ _, .str _]) j3; exact Q0; exact Q4; exact j2; rfl; rfl; exact kb; rfl)
    (apply D2 (vs := [.int _ _, .int _ _, .str _]) j2; exact Q0; exact Q4; rfl; exact kb; rfl)
    refine B8 (s275 (rs.getD i Rg0)) rfl j2 ?_ ?_ <;> intro h7_1
    ·refine A2 ?_ (by exact Q0) (by exact Q4)
     refine br ?_ ?_ <;> intro h7_7
     ·have hno : ¬ timeOK rdM n rs := fun e => by
       obtain ⟨⟨e1, e2, e3⟩, e4⟩ := e.2 i (by omega)
       first
       | exact h7_1 e1
       | omega
       | (have := e4 (by omega); omega)
       | exact h7_32 e3
      rw [show tmX n rs = 0 from if_neg hno, decide_eq_false hno]
      exact C2 rfl rfl
     ·refine br ?_ ?_ <;> intro h7_11
      ·refine C1 ?_
       (refine C0 (D1 (by first | rfl | assumption | exact Q31) rfl ?_))
       refine A2 ?_ (by exact Q0) (by exact Q4)
       refine br ?_ ?_ <;> intro h7_21
       ·have hno : ¬ timeOK rdM n rs := fun e => by
         obtain ⟨⟨e1, e2, e3⟩, e4⟩ := e.2 i (by omega)
         first
         | exact h7_1 e1
         | omega
         | (have := e4 (by omega); omega)
         | exact h7_32 e3
        rw [show tmX n rs = 0 from if_neg hno, decide_eq_false hno]
        exact C2 rfl rfl
       ·refine A2 ?_ (by exact Q0) (by exact Q4)
        refine A2 ?_ (by exact Q0) (by exact Q4)
        refine A2 ?_ (by exact Q0) (by exact Q4)
        refine C5 (s276 _ _) rfl rfl rfl ?_
        refine br ?_ ?_ <;> intro h7_32
        ·have hno : ¬ timeOK rdM n rs := fun e => by
          obtain ⟨⟨e1, e2, e3⟩, e4⟩ := e.2 i (by omega)
          first
          | exact h7_1 e1
          | omega
          | (have := e4 (by omega); omega)
          | exact h7_32 e3
         rw [show tmX n rs = 0 from if_neg hno, decide_eq_false hno]
         exact C2 rfl rfl
        ·refine A2 ?_ (by exact Q0) (by exact Q4)
         refine F2 (es := [[.int _ _]]) j4 kz kb rfl rfl ?_
         (apply eap (s' := 8) (es := [[.int _ _]]) rfl rfl; exact Q0; exact j2; exact Q23; exact j2; exact kz; exact O8; exact Q7; exact Q5; exact Q5)
         refine H2 fun G hG => ?_
         refine C1 ?_
         have hit : tmR n rs i := ⟨⟨h7_1, by omega, Classical.not_not.1 h7_32⟩, fun _ => by omega⟩
         refine C9 (ih ⟨i + 1, .view (m + 1 + 1) 0 ((vlL rs i).length + 1), m + 1 + 1, m + 1 + 1 + 1, G⟩ ⟨by dsimp only; omega, .inr ⟨?_, ?_, by dsimp only; omega, by dsimp only; omega⟩, fun j hj => ?_⟩ (by dsimp only; omega)) (by (repeat first | exact LE.nil _ | refine LE.unk _ _ ?_ | refine LE.eq _ _ _ rfl ?_)) (LessH.refl _) (Nat.le_refl _)
         ·show V.view _ 0 _ = V.view _ 0 (vlL rs i ++ [_]).length; rw [List.length_append]; rfl
         ·dsimp only; rw [hG]; show _ = some (Blk.mk ((vlL rs i ++ [_]).map iV) 1 3); rw [List.map_append]; exact Q0
         ·rcases Nat.lt_succ_iff_lt_or_eq.1 hj with q | q
          ·exact hok j q
          ·rw [q]; exact hit
      ·refine A2 ?_ (by exact Q0) (by exact Q4)
       refine A2 ?_ (by exact Q0) (by exact Q4)
       refine A2 ?_ (by exact Q0) (by exact Q4)
       refine C5 (s276 _ _) rfl rfl rfl ?_
       refine br ?_ ?_ <;> intro h7_32
       ·have hno : ¬ timeOK rdM n rs := fun e => by
         obtain ⟨⟨e1, e2, e3⟩, e4⟩ := e.2 i (by omega)
         first
         | exact h7_1 e1
         | omega
         | (have := e4 (by omega); omega)
         | exact h7_32 e3
        rw [show tmX n rs = 0 from if_neg hno, decide_eq_false hno]
        exact C2 rfl rfl
       ·refine A2 ?_ (by exact Q0) (by exact Q4)
        refine F2 (es := [[.int _ _]]) j4 kz kb rfl rfl ?_
        (apply eap (s' := 8) (es := [[.int _ _]]) rfl rfl; exact Q0; exact j2; exact Q23; exact j2; exact kz; exact O8; exact Q7; exact Q5; exact Q5)
        refine H2 fun G hG => ?_
        refine C1 ?_
        have hit : tmR n rs i := ⟨⟨h7_1, by omega, Classical.not_not.1 h7_32⟩, fun _ => by omega⟩
        refine C9 (ih ⟨i + 1, .view (m + 1 + 1) 0 ((vlL rs i).length + 1), m + 1 + 1, m + 1 + 1 + 1, G⟩ ⟨by dsimp only; omega, .inr ⟨?_, ?_, by dsimp only; omega, by dsimp only; omega⟩, fun j hj => ?_⟩ (by dsimp only; omega)) (by (repeat first | exact LE.nil _ | refine LE.unk _ _ ?_ | refine LE.eq _ _ _ rfl ?_)) (LessH.refl _) (Nat.le_refl _)
        ·show V.view _ 0 _ = V.view _ 0 (vlL rs i ++ [_]).length; rw [List.length_append]; rfl
        ·dsimp only; rw [hG]; show _ = some (Blk.mk ((vlL rs i ++ [_]).map iV) 1 3); rw [List.map_append]; exact Q0
        ·rcases Nat.lt_succ_iff_lt_or_eq.1 hj with q | q
         ·exact hok j q
         ·rw [q]; exact hit
    ·have hno : ¬ timeOK rdM n rs := fun e => by
      obtain ⟨⟨e1, e2, e3⟩, e4⟩ := e.2 i (by omega)
      first
      | exact h7_1 e1
      | omega
      | (have := e4 (by omega); omega)
      | exact h7_32 e3
     rw [show tmX n rs = 0 from if_neg hno, decide_eq_false hno]
     exact C2 rfl rfl
   ·have hvn : vlL rs i ≠ [] := fun e => by rw [e] at hrl; simp at hrl; omega
    apply U4 [bb] (s277 (vlL rs i) true hvn (by omega)) rfl rfl rfl
    ·exact SnapL.cons _ _ _ _ (.one _ _ (B5 (b := ⟨(vlL rs i).map iV, 1, 3⟩) ((vlL rs i).map iT) (List.mem_singleton.2 rfl) (by exact Q0) (rowsI _).symm (List.length_map ..).symm)) SnapL.nil
    obtain rfl : i = rs.length := by omega
    have hyes : timeOK rdM n rs := ⟨by omega, hok⟩
    rw [show tmX n rs = Tryz.med (vlL rs rs.length) from (if_pos hyes).trans (by rw [vlL_all]), decide_eq_true hyes]
    exact C2 rfl rfl
end Go.Proofs.YteifdelnahccjaaGreatDoor
