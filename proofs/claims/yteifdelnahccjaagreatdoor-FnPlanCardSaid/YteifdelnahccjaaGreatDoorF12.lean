import Derived.Test.YteifdelnahccjaaGreatDoorRows
import Derived.ProofKit
import Derived.ClosedOfChecked
import Derived.Deep.DeepHandedRow
import Derived.Test.YteifdelnahccjaaGreatDoorCards
import Derived.Test.YteifdelnahccjaaGreatDoorF11
namespace Go.Proofs.YteifdelnahccjaaGreatDoor
open Go Go.V
set_option linter.unusedVariables false
set_option linter.unusedSimpArgs false
set_option maxRecDepth 20000
set_option maxHeartbeats 4000000
theorem lkN2 {i i2 j : Nat} {b b2 : Option Blk} {h : Heap} (e : ¬ j = i) (e2 : ¬ j = i2) : app [(i, b), (i2, b2)] h j = h j := by rw [V.appC, V.appC, V.app0, V.upd_ne _ _ e2, V.upd_ne _ _ e]
theorem o144g (fr nn : Bool) (B : List Int) (hB : bytes B) (hL : B.length ≤ 1048577) (k sd m : Int) (hk : 0 ≤ k ∧ k ≤ 1000000) (hs : sdOK sd) (hm : 1 ≤ m ∧ m ≤ 256) {id : Nat} {h : Heap} {n : Nat} (hid : id < n) (hh : h id = some (srcB fr nn B k sd)) :
  ∃ r : Int × Int × Int, ((0 ≤ r.1 ∧ r.1 < m) ∧ (k ≤ r.2.1 ∧ r.2.1 ≤ k + 1) ∧ sdOK r.2.2) ∧ V.Open En 144 [.ptr id 0 0, .int .i64 m] h n (.int .i64 r.1) [(id, some (srcB fr nn B r.2.1 r.2.2))] n := by
 by_cases h2 : 2 ≤ m
 ·obtain ⟨⟨v, s⟩, h3, h4⟩ := X9 fr nn B hB hL k sd m hk hs ⟨h2, hm.2⟩ hid hh
  exact ⟨(v, k + 1, s), ⟨h3.1, by dsimp only; omega, h3.2⟩, h4⟩
 ·refine ⟨(0, k, sd), ⟨by dsimp only; omega, by dsimp only; omega, hs⟩, ?_⟩
  have hm1 : m ≤ 1 := by omega
  refine V.Open.of_ev (st := []) Tryz.func144 rfl kb ?_
  refine br ?_ ?_ <;> intro h1_1
  ·exact G9 rfl rfl (fun hz j b hj => by
    by_cases e : j = id
    ·subst e; rw [show app [(j, some (srcB fr nn B k sd))] h j = some (srcB fr nn B k sd) from V.upd_same _ _ _] at hj; rw [← Option.some.inj hj]; exact hh
    ·exact (V.upd_ne _ _ e).symm.trans hj) (Nat.le_refl _)
  ·exact absurd hm1 h1_1
def chI (vw : Int) (cs : List Ct) (i : Int) : Prop := ∀ j, j < cs.length → (∃ v q, (0 ≤ v ∧ v < vw) ∧ (1 ≤ q ∧ q ≤ 8) ∧ CtG v q (cs.getD j Ct0)) ∧ (0 < j → (cs.getD (j - 1) Ct0).sq < (cs.getD j Ct0).sq) ∧ (cs.getD j Ct0).sq < i
theorem chI_more {vw : Int} {cs : List Ct} {i v : Int} {c : Ct} (h : chI vw cs i) (hv : 0 ≤ v ∧ v < vw) (hi : 1 ≤ i ∧ i ≤ 8) (hc : CtG v i c) : chI vw (cs ++ [c]) (i + 1) := by
 intro j hj
 rw [List.length_append] at hj
 have hj : j < cs.length + 1 := hj
 by_cases e : j = cs.length
 ·subst e
  have e1 : (cs ++ [c]).getD cs.length Ct0 = c := by simp
  rw [e1]
  refine ⟨⟨v, i, hv, hi, hc⟩, fun h0 => ?_, by rw [hc.esq]; omega⟩
  have e2 : (cs ++ [c]).getD (cs.length - 1) Ct0 = cs.getD (cs.length - 1) Ct0 := by simp [List.getElem?_append_left (show cs.length - 1 < cs.length by omega)]
  rw [e2, hc.esq]; exact (h (cs.length - 1) (by omega)).2.2
 ·have e1 : (cs ++ [c]).getD j Ct0 = cs.getD j Ct0 := by simp [List.getElem?_append_left (show j < cs.length by omega)]
  have e2 : (cs ++ [c]).getD (j - 1) Ct0 = cs.getD (j - 1) Ct0 := by simp [List.getElem?_append_left (show j - 1 < cs.length by omega)]
  rw [e1, e2]
  have q := h j (by omega)
  exact ⟨q.1, q.2.1, by have := q.2.2; omega⟩
theorem chI.wz {vw i : Int} {cs : List Ct} (h : chI vw cs i) : ∀ s ∈ cs.map ctW, s.size ≤ 1000 := fun s hs => by
 obtain ⟨c, hc, rfl⟩ := List.mem_map.1 hs
 obtain ⟨j, hj, rfl⟩ := List.getElem_of_mem hc
 obtain ⟨⟨v, q, _, _, g⟩, _⟩ := h j hj
 rw [show cs.getD j Ct0 = cs[j] by simp [hj]] at g
 exact g.wz
noncomputable def chM (fr vw : Int) (cs : List Ct) : Msg := sgnM fr ⟨4, vw, 0, 0, ⟨#[]⟩, lsW (cs.map ctW), ⟨#[]⟩⟩
theorem chI.lz {vw i : Int} {cs : List Ct} (h : chI vw cs i) (hl : cs.length ≤ 7) : (lsW (cs.map ctW)).size ≤ 20000 := by
 have h1 := itW_le h.wz
 rw [List.length_map] at h1
 have h2 : (1000 + 2) * cs.length ≤ 1002 * 7 := Nat.mul_le_mul_left _ hl
 unfold lsW; rw [ByteArray.size_append, A6]; omega
theorem chI.vc {vw i fr : Int} {cs : List Ct} (h : chI vw cs i) (hl : cs.length ≤ 7) (hv : 1 ≤ vw ∧ vw ≤ 20) (hf : 0 ≤ fr ∧ fr ≤ 3) : vcM mk bare rdM dgB 4 (chM fr vw cs) cs := by
 refine ⟨rfl, hv.1, ⟨⟨by show (1 : Int) ≤ 4 ∧ (4 : Int) ≤ 5; decide, by show 0 ≤ vw ∧ vw ≤ 20; omega, by show 0 ≤ fr ∧ fr ≤ 6; omega, P5 _ _, h.lz hl, ?_⟩, by show fr < 4; omega, rfl⟩, cs.map ctW, ?_, by rw [List.length_map]; omega, ?_⟩
 ·rw [if_neg (by show ¬ (4 : Int) ≤ 3; decide)]; exact ⟨rfl, rfl⟩
 ·exact lsW_C (by rw [List.length_map]; omega) fun s hs => by have := h.wz s hs; omega
 ·rw [List.length_map]
  have go : ∀ k, k ≤ cs.length → Vc mk bare rdM dgB 4 vw (cs.map ctW) k (cs.take k) := by
   intro k
   induction k with
   | zero => intro _; rw [List.take_zero]; exact .nil
   | succ k ih =>
    intro hk
    obtain ⟨⟨v, q, hv1, hq1, g⟩, h2, h3⟩ := h k (by omega)
    have ht : cs.take (k + 1) = cs.take k ++ [cs.getD k Ct0] := by rw [List.take_add_one]; simp [show k < cs.length by omega]
    rw [ht]
    refine .more k _ _ (ih (by omega)) (by rw [List.length_map]; omega) ⟨?_, g.ok, by rw [g.evw]; exact hv1.2, fun hne => ?_⟩
    ·rw [show (cs.map ctW).getD k ⟨#[]⟩ = ctW (cs.getD k Ct0) by simp [show k < cs.length by omega]]
     exact g.rt ⟨hv1.1, by omega⟩ hq1
    ·have hk0 : 0 < k := by
      rcases Nat.eq_zero_or_pos k with e | e
      ·subst e; rw [List.take_zero] at hne; exact absurd rfl hne
      ·exact e
     have e1 : (cs.take k).length = k := by rw [List.length_take]; omega
     rw [e1, show (cs.take k).getD (k - 1) Ct0 = cs.getD (k - 1) Ct0 by simp [List.getElem?_take, show k - 1 < k by omega]]
     exact h2 hk0
  have := go cs.length (Nat.le_refl _)
  rwa [List.take_length] at this
structure HS where
 i : Nat
 cs : List Ct
 b : Nat
 m : Nat
 k : Int
 s : Int
 g : Heap
structure HSI (fr nn : Bool) (B : List Int) (vw k0 : Int) (id : Nat) (h : Heap) (n : Nat) (a : HS) : Prop where
 il : 1 ≤ a.i ∧ a.i ≤ 4
 ll : a.cs.length + 1 ≤ a.i
 ok : chI vw a.cs a.i
 src : a.g id = some (srcB fr nn B a.k a.s)
 out : a.g a.b = some ⟨(a.cs.map ctW).map tV, 1, 9⟩
 res : a.g n = some ⟨[[.int .i64 0, .int .i64 0, .int .i64 0, .int .i64 0, .str ⟨#[]⟩, .str ⟨#[]⟩, .str ⟨#[]⟩]], 7, 37⟩
 bm : n < a.b ∧ a.b < a.m
 kk : k0 ≤ a.k ∧ a.k ≤ k0 + 20 * (a.i : Int)
 ss : sdOK a.s
 fr : ∀ j, j < n → j ≠ id → a.g j = h j
 ch : Ch h a.g
theorem CtG.sz8 {vw sq : Int} {c : Ct} (h : CtG vw sq c) : ∀ i, i < c.ps.length → (c.ps.getD i Msg0).dg.size ≤ 1000 ∧ (c.ps.getD i Msg0).bd.size ≤ 20000 ∧ (c.ps.getD i Msg0).mc.size ≤ 1000 := fun i hi => by
 obtain ⟨x, _, e⟩ := h.ps i hi
 rw [e]
 exact ⟨by show (dgB _).size ≤ 1000; rw [P6]; decide, by show 0 ≤ 20000; decide, mk_size2 _ _⟩
theorem chI.to4 {vw i : Int} {cs : List Ct} (h : chI vw cs i) (hi : i ≤ 4) : chI vw cs 4 := fun j hj => ⟨(h j hj).1, (h j hj).2.1, by have := (h j hj).2.2; omega⟩
theorem o69 (fr nn : Bool) (B : List Int) (hB : bytes B) (hL : B.length ≤ 1048577) (k0 s0 : Int) (hk : 0 ≤ k0 ∧ k0 ≤ 600000) (hs : sdOK s0) {id : Nat} {h : Heap} {n : Nat} (hid : id < n) (hh : h id = some (srcB fr nn B k0 s0)) (fm vw : Int) (hv : 1 ≤ vw ∧ vw ≤ 4) :
  OpenM En 69 [.ptr id 0 0, .int .i64 4, .int .i64 fm, .int .i64 vw] h n (fun v g m => ∃ cs, v = .agg (chM fm vw cs).V ∧ chI vw cs 4 ∧ cs.length ≤ 3 ∧ (∀ j, j < n → j ≠ id → g j = h j)) := by
 refine OpenM.of_ev (st := [4]) Tryz.func69 rfl kb ?_
 refine D3 (es := []) j4 kz kb rfl rfl ?_
 refine U7 fun g0 hg0 => ?_
 refine A9 (fun (a : HS) => [.ptr id 0 0, .int .i64 4, .int .i64 fm, .int .i64 vw, .unk, .unk, .unk, .unk, .ptr n 0 0, .view a.b 0 a.cs.length, .int .i64 (a.i : Int)]) (fun (a : HS) => a.g) (fun (a : HS) => a.m) (fun (a : HS) => HSI fr nn B vw k0 id h n a) (fun (a : HS) => 4 - a.i) ⟨1, [], n + 1, n + 1 + 1, k0, s0, g0⟩ ?_ ?_ ?_ ?_ ?_
 ·refine ⟨by dsimp only; omega, by dsimp only; exact Nat.le_refl _, fun j hj => absurd hj (Nat.not_lt_zero j), ?_, ?_, ?_, by dsimp only; omega, by dsimp only; omega, hs, ?_, ?_⟩
  ·dsimp only; rw [hg0]; exact Q1
  ·dsimp only; rw [hg0]; exact Q1
  ·dsimp only; rw [hg0]; exact Q1
  ·intro j hj hne; dsimp only; rw [hg0]; (repeat first | with_reducible rfl | refine lkN (by omega) ?_)
  ·dsimp only; rw [hg0]; repeat first | exact hch | exact Ch.refl _ | refine Ch.app ?_
 ·(repeat first | exact LE.nil _ | refine LE.unk _ _ ?_ | refine LE.eq _ _ _ rfl ?_)
 ·exact LessH.refl _
 ·exact Nat.le_refl _
 intro ⟨i, cs, b, m, k, s, g⟩ hI ih
 obtain ⟨il, ll, hok, hsrc, hout, hres, hbm, hkk, hss, hfr, hch⟩ := hI
 dsimp only at il ll hok hsrc hout hres hbm hkk hss hfr hch ⊢
 have hrl : ((cs.map ctW).map tV).length = cs.length := by simp
 refine A7 (st := [4]) ?_
 refine br ?_ ?_ <;> intro h3_1
 ·refine K6 (o141 fr nn B hB hL k s (by omega) hss 2 (by omega) ?_ hsrc) rfl j2 ?_
  ·exact Q37
  rintro ⟨cc, s1⟩ h5_1
  try dsimp only at h5_1
  cases cc
  ·refine E1 fun GG hGG => ?_
   refine B7 ?_
   first
   | (
     refine C6 (ih ⟨i + 1, cs, b, m, k + 1, s1, GG⟩ ⟨by dsimp only; omega, by dsimp only; omega, ?_, ?_, ?_, ?_, by dsimp only; omega, by dsimp only; omega, ?_, ?_, ?_⟩ (by dsimp only; omega)) (by (repeat first | exact LE.nil _ | refine LE.unk _ _ ?_ | refine LE.eq _ _ _ rfl ?_)) (LessH.refl _) (Nat.le_refl _)
     · dsimp only; intro j hj; have q := hok j hj; exact ⟨q.1, q.2.1, by have := q.2.2; omega⟩
     · dsimp only; rw [hGG]; exact Q1
     · dsimp only; rw [hGG]; exact Q1
     · dsimp only; rw [hGG]; exact Q1
     · exact h5_1
     · intro j hj hne; dsimp only; rw [hGG]; (repeat first | with_reducible rfl | refine lkN (by omega) ?_ | exact hfr j hj hne)
     · dsimp only; rw [hGG]; repeat first | exact hch | exact Ch.refl _ | refine Ch.app ?_)
   | (
     have hsx : V.strOw (lsP (c.bd :: c.ps.map msW) (c.bd :: c.ps.map msW).length) = ctW c := V9 _
     refine C6 (ih ⟨i + 1, cs ++ [c], m3 + 1, m3 + 1 + 1, k3, s3, GG⟩ ⟨by dsimp only; omega, by dsimp only; rw [List.length_append]; show cs.length + 1 + 1 ≤ i + 1; omega, ?_, ?_, ?_, ?_, by dsimp only; omega, by dsimp only; omega, ?_, ?_, ?_⟩ (by dsimp only; omega)) (by (repeat first | exact LE.nil _ | refine LE.unk _ _ ?_ | refine LE.eq _ _ _ rfl ?_ | refine LE.eq _ _ _ (congrArg (V.view _ 0) (by simp)) ?_)) (LessH.refl _) (Nat.le_refl _)
     · exact chI_more hok h6_5.1 (by omega) hG
     · dsimp only; rw [hGG]; exact Q1
     · dsimp only; rw [hGG, List.map_append, List.map_cons, List.map_nil, List.map_append, ← hsx]; (simp (disch := omega) only [↓app0, ↓appC, ↓updS, ↓updN, List.drop_zero]); (try rfl)
     · dsimp only; rw [hGG]; exact Q1
     · exact hs3
     · intro j hj hne; dsimp only; rw [hGG]; (repeat first | with_reducible rfl | exact hfr j hj hne | refine lkN (by omega) ?_ | refine (lkN2 (by omega) (by omega)).trans ?_ | refine (hfr3 j (by omega) hne).trans ?_)
     · dsimp only; rw [hGG]; repeat first | exact hch | exact Ch.refl _ | refine Ch.app ?_)
  ·refine K6 (o144g fr nn B hB hL (k + 1) s1 vw (by omega) h5_1 (by omega) ?_ ?_) rfl j2 ?_
   ·exact Q37
   ·exact Q37
   rintro ⟨vq, k2, s2⟩ h6_5
   try dsimp only at h6_5
   refine eopO (o143 fr nn B hB hL k2 s2 (by omega) h6_5.2.2 ?_ ?_ vq (i : Int) (by omega) (by omega)) rfl j2 ?_
   ·exact Q37
   ·exact Q37
   rintro v3 wr3 m3 ⟨c, cb, k3, s3, rfl, hcb, hcbm, hG, hk3, hs3, hsrc3, hfr3, hc3⟩ hle3
   have hout3 := (hfr3 b (by omega) (by omega)).trans (by (repeat first | with_reducible assumption | exact lkS (by omega) rfl | apply lkN (by omega)))
   have hres3 := (hfr3 n (by omega) (by omega)).trans (by (repeat first | with_reducible assumption | exact lkS (by omega) rfl | apply lkN (by omega)))
   apply T3 [cb] (r142 c true (by rw [hG.ln]; decide) hG.sz8 (fun s hs => by have := hG.small s hs; omega)) rfl rfl rfl
   ·exact SnapL.cons _ _ _ _ (SnapC.agg (.cons _ _ _ _ (.str _) (.cons _ _ _ _ (A3 (b := ⟨c.ps.map Msg.V, 7, 37⟩) (c.ps.map Msg.T) (List.mem_singleton.2 rfl) hcb (rowsMg _) (List.length_map ..).symm) .nil))) SnapL.nil
   (apply esg j4; rfl; (intro s e; cases e); exact rowsBf true _)
   refine D3 (es := [[.str _]]) j4 kz kb rfl rfl ?_
   (apply eap (s' := 16) (es := [[.str _]]) rfl rfl; exact Q1; exact j2; (first | rfl | (rw [List.length_map]; done) | simp); exact j2; exact kz; (first | rfl | (apply E0 rfl; exact Q1; (first | exact Nat.le_refl _ | omega); rfl)); exact Q44; exact Q33; exact Q33)
   refine E1 fun GG hGG => ?_
   refine B7 ?_
   first
   | (
     refine C6 (ih ⟨i + 1, cs, b, m, k + 1, s1, GG⟩ ⟨by dsimp only; omega, by dsimp only; omega, ?_, ?_, ?_, ?_, by dsimp only; omega, by dsimp only; omega, ?_, ?_, ?_⟩ (by dsimp only; omega)) (by (repeat first | exact LE.nil _ | refine LE.unk _ _ ?_ | refine LE.eq _ _ _ rfl ?_)) (LessH.refl _) (Nat.le_refl _)
     · dsimp only; intro j hj; have q := hok j hj; exact ⟨q.1, q.2.1, by have := q.2.2; omega⟩
     · dsimp only; rw [hGG]; exact Q1
     · dsimp only; rw [hGG]; exact Q1
     · dsimp only; rw [hGG]; exact Q1
     · exact h5_1
     · intro j hj hne; dsimp only; rw [hGG]; (repeat first | with_reducible rfl | refine lkN (by omega) ?_ | exact hfr j hj hne)
     · dsimp only; rw [hGG]; repeat first | exact hch | exact Ch.refl _ | refine Ch.app ?_)
   | (
     have hsx : V.strOw (lsP (c.bd :: c.ps.map msW) (c.bd :: c.ps.map msW).length) = ctW c := V9 _
     refine C6 (ih ⟨i + 1, cs ++ [c], m3 + 1, m3 + 1 + 1, k3, s3, GG⟩ ⟨by dsimp only; omega, by dsimp only; rw [List.length_append]; show cs.length + 1 + 1 ≤ i + 1; omega, ?_, ?_, ?_, ?_, by dsimp only; omega, by dsimp only; omega, ?_, ?_, ?_⟩ (by dsimp only; omega)) (by (repeat first | exact LE.nil _ | refine LE.unk _ _ ?_ | refine LE.eq _ _ _ rfl ?_ | refine LE.eq _ _ _ (congrArg (V.view _ 0) (by simp)) ?_)) (LessH.refl _) (Nat.le_refl _)
     · exact chI_more hok h6_5.1 (by omega) hG
     · dsimp only; rw [hGG]; exact Q1
     · dsimp only; rw [hGG, List.map_append, List.map_cons, List.map_nil, List.map_append, ← hsx]; (simp (disch := omega) only [↓app0, ↓appC, ↓updS, ↓updN, List.drop_zero]); (try rfl)
     · dsimp only; rw [hGG]; exact Q1
     · exact hs3
     · intro j hj hne; dsimp only; rw [hGG]; (repeat first | with_reducible rfl | exact hfr j hj hne | refine lkN (by omega) ?_ | refine (lkN2 (by omega) (by omega)).trans ?_ | refine (hfr3 j (by omega) hne).trans ?_)
     · dsimp only; rw [hGG]; repeat first | exact hch | exact Ch.refl _ | refine Ch.app ?_)
 ·apply T3 [b] (r146 (cs.map ctW) true (by rw [List.length_map]; omega) (fun s hs => by have := hok.wz s hs; omega)) rfl rfl rfl
  ·exact SnapL.cons _ _ _ _ (.one _ _ (A3 (b := ⟨(cs.map ctW).map tV, 1, 9⟩) ((cs.map ctW).map tT) (List.mem_singleton.2 rfl) hout (rowsSg _) (by simp))) SnapL.nil
  (apply esg j4; rfl; (intro s e; cases e); exact rowsBf true _)
  refine C8 (r145 fm ⟨4, vw, 0, 0, ⟨#[]⟩, V.strOw (lsP (cs.map ctW) (cs.map ctW).length), ⟨#[]⟩⟩ (show (⟨#[]⟩ : ByteArray).size ≤ 1000 by decide) (by show (V.strOw (lsP (cs.map ctW) (cs.map ctW).length)).size ≤ 20000; rw [V9]; exact hok.lz (by omega))) rfl rfl rfl ?_
  (apply est (u := .agg [.int _ _, .int _ _, .int _ _, .int _ _, .str _, .str _, .str _]) j3; exact Q1; exact Q8; exact j4; exact kb; rfl)
  refine fiM (xs := [.agg [.int .i64 4, .int .i64 vw, .int .i64 0, .int .i64 fm, .str ⟨#[]⟩, .str (V.strOw (lsP (cs.map ctW) (cs.map ctW).length)), .str (sgnM fm ⟨4, vw, 0, 0, ⟨#[]⟩, V.strOw (lsP (cs.map ctW) (cs.map ctW).length), ⟨#[]⟩⟩).mc]]) (A0 (A2 rfl (by exact Q1) j2 kb rfl) A1) (by repeat first | exact hch | refine Ch.app ?_) ⟨cs, ?_, hok.to4 (by omega), by omega, fun j hj hne => ?_⟩
  ·rw [V9]; rfl
  ·(repeat first | with_reducible rfl | refine lkN (by omega) ?_ | exact hfr j hj hne)
theorem r23 (nn : Bool) (B : List Int) (hB : bytes B) (hL : B.length ≤ 1048577) (fm vw : Int) (hv : 1 ≤ vw ∧ vw ≤ 4) : ∃ cs, (chI vw cs 4 ∧ cs.length ≤ 3) ∧ Pure En 23 [.one (.sl nn (B.map bT)), .one (.int .i64 4), .one (.int .i64 fm), .one (.int .i64 vw)] [.agg (chM fm vw cs).T] := by
 refine Pure.of_evX (st := []) Tryz.func23 rfl kb ?_
 refine K6 (o68 false nn B) rfl j2 ?_
 rintro sd h1_1
 try dsimp only at h1_1
 refine eopO (o69 false nn B hB hL 0 sd (by decide) h1_1 ?_ ?_ fm vw hv) rfl j2 ?_
 ·exact Q37
 ·exact Q37
 rintro v wr m ⟨cs, rfl, hcs, hl3, hfr⟩ hle
 have hb0 := (hfr 0 (by omega) (by omega)).trans (by (repeat first | with_reducible assumption | exact lkS (by omega) rfl | apply lkN (by omega)))
 (apply est (u := .agg [.int _ _, .int _ _, .int _ _, .int _ _, .str _, .str _, .str _]) j3; exact Q0; rfl; exact j4; exact kb; rfl)
 exact ⟨cs, ⟨hcs, hl3⟩, E4 rfl rfl⟩
open Go Go.V
set_option linter.unusedVariables false
set_option linter.unusedSimpArgs false
set_option maxRecDepth 20000
set_option maxHeartbeats 4000000
def lcI (vw : Int) (L : List Msg) (i : Int) : Prop := ∀ j, j < L.length → (∃ fr cs, (0 ≤ fr ∧ fr ≤ 3) ∧ chI vw cs 4 ∧ cs.length ≤ 3 ∧ L.getD j Msg0 = chM fr vw cs) ∧ (0 < j → (L.getD (j - 1) Msg0).fr < (L.getD j Msg0).fr) ∧ (L.getD j Msg0).fr < i
theorem lcI_more {vw : Int} {L : List Msg} {i : Int} {cs : List Ct} (h : lcI vw L i) (hi : 0 ≤ i ∧ i ≤ 3) (hc : chI vw cs 4) (hl : cs.length ≤ 3) : lcI vw (L ++ [chM i vw cs]) (i + 1) := by
 intro j hj
 rw [List.length_append] at hj
 have hj : j < L.length + 1 := hj
 by_cases e : j = L.length
 ·subst e
  have e1 : (L ++ [chM i vw cs]).getD L.length Msg0 = chM i vw cs := by simp
  rw [e1]
  refine ⟨⟨i, cs, hi, hc, hl, rfl⟩, fun h0 => ?_, by show i < i + 1; omega⟩
  have e2 : (L ++ [chM i vw cs]).getD (L.length - 1) Msg0 = L.getD (L.length - 1) Msg0 := by simp [List.getElem?_append_left (show L.length - 1 < L.length by omega)]
  rw [e2]; exact (h (L.length - 1) (by omega)).2.2
 ·have e1 : (L ++ [chM i vw cs]).getD j Msg0 = L.getD j Msg0 := by simp [List.getElem?_append_left (show j < L.length by omega)]
  have e2 : (L ++ [chM i vw cs]).getD (j - 1) Msg0 = L.getD (j - 1) Msg0 := by simp [List.getElem?_append_left (show j - 1 < L.length by omega)]
  rw [e1, e2]
  have q := h j (by omega)
  exact ⟨q.1, q.2.1, by have := q.2.2; omega⟩
theorem lcI.plan {vw i : Int} {L : List Msg} (h : lcI vw L i) (hv : 1 ≤ vw ∧ vw ≤ 20) (hl : L.length = 3) : planOK 4 vw L := by
 refine ⟨by rw [hl]; rfl, fun j hj => ?_⟩
 obtain ⟨⟨fr, cs, hf, hc, hl3, e⟩, h2, _⟩ := h j hj
 refine ⟨?_, by rw [e]; rfl, h2⟩
 rw [e]
 exact ⟨by decide, cs, hc.vc (by omega) hv hf⟩
theorem pn_ok {vw : Int} {L : List Msg} (h : planOK 4 vw L) (hv : 1 ≤ vw ∧ vw ≤ 20) (hl : L.length = 3) : pnC 4 vw L = 0 ∧ pnO 4 vw L = ouP (plS 4 L L.length) (plS 4 L L.length).last.toNat := by
 unfold pnC pnO
 rw [if_neg (by omega), if_pos ⟨by decide, hv⟩, if_neg (by omega), if_pos ⟨by decide, hv⟩]
 unfold plC plO
 rw [if_pos h.1, if_pos h, if_pos h]
 exact ⟨rfl, by rw [show (plS 4 L L.length).last + 1 - 1 = (plS 4 L L.length).last by omega]⟩
def bsA (s : Pl) (q : Nat) : Int := if (s.B.getD q Ct0).ps.length = 0 then 0 else (s.B.getD q Ct0).vw + 1
def bsL (s : Pl) : List Int := (List.range 9).map (bsA s)
theorem bsL_step {s : Pl} {c : Ct} (hb : s.B.length = 9) (hc : cG c) (hv : 0 ≤ c.vw) : bsL (s.step c) = (bsL s).set c.sq.toNat (max (bsA s c.sq.toNat) (c.vw + 1)) := by
 obtain ⟨hp, h1, h2⟩ := hc
 refine List.ext_getElem (by simp [bsL]) fun q h3 h4 => ?_
 have hq : q < 9 := by simpa [bsL] using h3
 rw [List.getElem_set]
 have e1 : ∀ hh, (bsL (s.step c))[q]'hh = bsA (s.step c) q := fun hh => by simp [bsL]
 have e2 : ∀ hh, (bsL s)[q]'hh = bsA s q := fun hh => by simp [bsL]
 rw [e1, e2]
 by_cases hy : (s.B.getD c.sq.toNat Ct0).ps.length = 0 ∨ (s.B.getD c.sq.toNat Ct0).vw < c.vw
 ·unfold bsA
  rw [H4 hy]
  by_cases e : c.sq.toNat = q
  ·subst e
   rw [if_pos rfl, F1 hb (by omega), if_pos rfl, if_neg (by omega)]
   split
   ·omega
   ·rcases hy with hy | hy <;> omega
  ·rw [if_neg e, F1 hb (by omega)]
   simp only [if_neg (show ¬ q = c.sq.toNat from fun q2 => e q2.symm)]
 ·unfold bsA
  rw [I6 hy]
  by_cases e : c.sq.toNat = q
  ·subst e
   rw [if_pos rfl, if_neg (fun q2 => hy (.inl q2))]
   have : ¬ (s.B.getD c.sq.toNat Ct0).vw < c.vw := fun q2 => hy (.inr q2)
   omega
  ·rw [if_neg e]
def PlM (n : Int) (L : List Msg) (s : Pl) : Prop := ∀ q, 0 < (s.B.getD q Ct0).ps.length → (s.B.getD q Ct0).sq = (q : Int) ∧ 0 ≤ (s.B.getD q Ct0).vw ∧ ∃ j k, j < L.length ∧ k < (vcO n (L.getD j Msg0)).length ∧ (vcO n (L.getD j Msg0)).getD k Ct0 = s.B.getD q Ct0
theorem PlM.step {n : Int} {L : List Msg} {s : Pl} {c : Ct} (h : PlM n L s) (hb : s.B.length = 9) (hc : cG c) (hv : 0 ≤ c.vw) (hm : ∃ j k, j < L.length ∧ k < (vcO n (L.getD j Msg0)).length ∧ (vcO n (L.getD j Msg0)).getD k Ct0 = c) : PlM n L (s.step c) := by
 intro q hq
 by_cases hy : (s.B.getD c.sq.toNat Ct0).ps.length = 0 ∨ (s.B.getD c.sq.toNat Ct0).vw < c.vw
 ·rw [H4 hy] at hq ⊢
  obtain ⟨hp, h1, h2⟩ := hc
  rw [F1 hb (by omega)] at hq ⊢
  by_cases e : q = c.sq.toNat
  ·rw [if_pos e]; exact ⟨by omega, hv, hm⟩
  ·rw [if_neg e] at hq ⊢; exact h q hq
 ·rw [I6 hy] at hq ⊢; exact h q hq
theorem T1 {n : Int} {m : Msg} : ∀ k, k < (vcO n m).length → 0 ≤ ((vcO n m).getD k Ct0).vw ∧ ((vcO n m).getD k Ct0).vw ≤ 20 := by
 intro k hk
 by_cases h : okV n m
 ·obtain ⟨hn, out, ho⟩ := h
  have e := (okV_is hn ho).2
  rw [e] at hk ⊢
  obtain ⟨_, _, _, l, _, _, hv⟩ := ho
  have go : ∀ i out, VC n m.vw l i out → ∀ j, j < i → ctOK mk bare rdM dgB n (out.getD j Ct0) := by
   intro i out h
   induction h with
   | nil => intro j hj; omega
   | more i out c h hi hc ih =>
    intro j hj
    have hl := h.len
    by_cases e : j < i
    ·have := ih j e
     rwa [show (out ++ [c]).getD j Ct0 = out.getD j Ct0 by simp [List.getElem?_append_left (show j < out.length by omega)]]
    ·rw [show (out ++ [c]).getD j Ct0 = c by simp [show j = out.length by omega]]
     exact hc.2.1
  have hl := hv.len
  have g := go _ _ hv k (by omega)
  have hp := O2 ⟨hn, g⟩
  exact (g.2.2.2 0 hp).2.1.1.2.1
 ·rw [show vcO n m = [] from if_neg h] at hk; simp at hk
theorem PlM.rn {n : Int} {L : List Msg} {s : Pl} (h : PlM n L s) (hg : PlG s) {j : Nat} (hj : j < L.length) : ∀ k, k ≤ (vcO n (L.getD j Msg0)).length → PlM n L (rnS s (vcO n (L.getD j Msg0)) k)
 | 0, _ => h
 | k + 1, hk => (PlM.rn h hg hj k (by omega)).step (hg.rn (C1 n _) k (by omega)).len (C1 n _ k (by omega)) (T1 k (by omega)).1 ⟨j, k, hj, by omega, rfl⟩
theorem PlM.pl (n : Int) (L : List Msg) : ∀ i, i ≤ L.length → PlM n L (plS n L i)
 | 0, _ => fun q hq => by
  have : (Pl0.B.getD q Ct0) = Ct0 := by
   show (List.replicate 9 Ct0).getD q Ct0 = Ct0
   rw [List.getD_eq_getElem?_getD, List.getElem?_replicate]; split <;> rfl
  rw [show (plS n L 0).B = Pl0.B from rfl, this] at hq
  exact absurd hq (Nat.lt_irrefl 0)
 | i + 1, h => PlM.rn (PlM.pl n L i (by omega)) (PlG.pl n L i) (by omega) _ (Nat.le_refl _)
theorem ouP_get (s : Pl) : ∀ (N k : Nat), k < N → (ouP s N).getD k ⟨#[]⟩ = if (s.B.getD (k + 1) Ct0).ps.length = 0 then nullT else (s.B.getD (k + 1) Ct0).bd
 | N + 1, k, h => by
  rw [show ouP s (N + 1) = ouP s N ++ [if (s.B.getD (N + 1) Ct0).ps.length = 0 then nullT else (s.B.getD (N + 1) Ct0).bd] from rfl]
  have hl := L5 s N
  by_cases e : k < N
  ·rw [← ouP_get s N k e]; simp [List.getElem?_append_left (show k < (ouP s N).length by omega)]
  ·have : k = (ouP s N).length := by omega
   subst this
   simp; rw [hl]
theorem a22 (nn : Bool) (B : List Int) (hB : bytes B) (hL : B.length ≤ 1048576) (i m : Int) (hi : 0 ≤ i ∧ i ≤ 100) (hm : 2 ≤ m ∧ m ≤ 100) : ∃ r : Int, (0 ≤ r ∧ r < m) ∧ Pure En 22 [.one (.sl nn (B.map bT)), .one (.int .i64 i), .one (.int .i64 m)] [.one (.int .i64 r)] := by
 have hl : (B.map bT).length = B.length := List.length_map ..
 have g := fun k => hB.get k
 have q1 : 0 ≤ i.tdiv ((B.map bT).length : Int) ∧ i.tdiv ((B.map bT).length : Int) ≤ 100 := by
  have h1 := Int.tdiv_nonneg hi.1 (show (0 : Int) ≤ ((B.map bT).length : Int) by omega)
  have h2 := Int.tdiv_le_self ((B.map bT).length : Int) hi.1
  omega
 have q2 : IntKind.i64.wrap (i.tdiv ((B.map bT).length : Int)) = i.tdiv ((B.map bT).length : Int) := wrap_i64 (by omega) (by omega)
 refine Pure.of_evX (st := []) Tryz.func22 rfl kb ?_
 refine br ?_ ?_ <;> intro h1_1
 ·exact absurd h1_1 (by omega)
 ·refine br ?_ ?_ <;> intro h3_2
  ·refine D6 ⟨by exact Q3, by exact Q3⟩ ?_
   refine sd (by exact Q3) ?_
   exact ⟨_, E6 (by omega) (by omega), E4 rfl rfl⟩
  ·refine sd (by exact Q3) ?_
   (refine sd (by exact Q3) (D7 (by first | rfl | assumption | (exact B9 bT 0 (by have t1 := E6 (a := i) (b := ((B.map bT).length : Int)) (by omega) (by omega); have t2 := E6 (a := i + 1) (b := ((B.map bT).length : Int)) (by omega) (by omega); omega))) rfl ?_))
   refine cvF ⟨by (first | exact N6 _ _ | exact N7 _ _ | omega | exact Q3), by (first | exact N6 _ _ | exact N7 _ _ | omega | exact Q3)⟩ ?_
   refine D6 ⟨by exact Q3, by exact Q3⟩ ?_
   refine D6 ⟨by exact Q3, by exact Q3⟩ ?_
   refine sd (by exact Q3) ?_
   (refine sd (by exact Q3) (D7 (by first | rfl | assumption | (exact B9 bT 0 (by have t1 := E6 (a := i) (b := ((B.map bT).length : Int)) (by omega) (by omega); have t2 := E6 (a := i + 1) (b := ((B.map bT).length : Int)) (by omega) (by omega); omega))) rfl ?_))
   refine cvF ⟨by (first | exact N6 _ _ | exact N7 _ _ | omega | exact Q3), by (first | exact N6 _ _ | exact N7 _ _ | omega | exact Q3)⟩ ?_
   refine D6 ⟨by exact Q3, by exact Q3⟩ ?_
   refine sd (by exact Q3) ?_
   refine D6 ⟨by exact Q3, by exact Q3⟩ ?_
   refine sd (by exact Q3) ?_
   have t1 := E6 (a := i) (b := ((B.map bT).length : Int)) (by omega) (by omega)
   have t2 := E6 (a := i + 1) (b := ((B.map bT).length : Int)) (by omega) (by omega)
   have g1 := g (i.tmod ((B.map bT).length : Int)).toNat
   have g2 := g ((i + 1).tmod ((B.map bT).length : Int)).toNat
   exact ⟨_, E6 (by omega) (by omega), E4 rfl rfl⟩
theorem s24 (n1 n2 : Bool) (L : List ByteArray) (hL : L.length ≤ 1048577) : Pure En 24 [.one (.sl n1 (L.map tT)), .one (.sl n2 (L.map tT))] [.one (.bool true)] := by
 refine Pure.of_ev (st := []) Tryz.func24 rfl kb ?_
 refine br (fun h => absurd h ((fun hh => hh rfl))) ?_
 intro h1_4
 refine X2 (fun (i : Nat) => [.sl false n1 (L.map tT), .sl false n2 (L.map tT), .unk, .unk, .unk, .int .i64 (i : Int)]) (fun (i : Nat) => i ≤ L.length) (fun (i : Nat) => L.length - i) 0 ?_ ?_ ?_
 ·exact Nat.zero_le _
 ·(repeat first | exact LE.nil _ | refine LE.unk _ _ ?_ | refine LE.eq _ _ _ rfl ?_)
 intro i hI ih
 have hl : (L.map tT).length = L.length := List.length_map ..
 refine A7 (st := []) ?_
 refine br ?_ ?_ <;> intro h4_3
 ·(refine sd (by (first | omega | assumption | (rw [List.length_map]; omega))) (D7 (by first | rfl | assumption | (exact B0 tT (⟨#[]⟩ : ByteArray) (k := i) (by omega))) rfl ?_))
  (refine sd (by (first | omega | assumption | (rw [List.length_map]; omega))) (D7 (by first | rfl | assumption | (exact B0 tT (⟨#[]⟩ : ByteArray) (k := i) (by omega))) rfl ?_))
  refine br (fun h => absurd h ((fun hh => hh rfl))) ?_
  intro h6_8
  refine D6 ⟨by (first | omega | assumption | (rw [List.length_map]; omega)), by (first | omega | assumption | (rw [List.length_map]; omega))⟩ ?_
  exact wlN (ih (i + 1) (by omega) (by omega)) (by (repeat first | exact LE.nil _ | refine LE.unk _ _ ?_ | refine LE.eq _ _ _ rfl ?_))
 ·exact E4 rfl rfl
theorem s25 (m : Msg) (hok : okV 4 m) : Pure En 25 [.one (.int .i64 4), .agg m.T] [.one (.sl false ((vcO 4 m).map (Ct.T false))), .one (.int .i64 0)] := by
 refine Pure.of_ev (st := []) Tryz.func25 rfl kb ?_
 refine B6 (p22 4) rfl j2 ?_ ?_ <;> intro h1_1
 ·(apply D2 (vs := [.int _ _, .int _ _, .int _ _, .int _ _, .str _, .str _, .str _]) j2; exact Q1; rfl; rfl; exact kb; rfl)
  refine C8 (s70 4 m) rfl rfl rfl ?_
  refine brB ?_ ?_ <;> intro h3_5
  ·first | exact absurd (show nodes 4 by decide) h1_1 | exact E4 rfl rfl | (exfalso; have := decide_eq_true hok; simp_all)
  ·first | exact absurd (show nodes 4 by decide) h1_1 | exact E4 rfl rfl | (exfalso; have := decide_eq_true hok; simp_all)
 ·first | exact absurd (show nodes 4 by decide) h1_1 | exact E4 rfl rfl | (exfalso; have := decide_eq_true hok; simp_all)
open Go Go.V
set_option linter.unusedVariables false
set_option linter.unusedSimpArgs false
set_option maxRecDepth 20000
set_option maxHeartbeats 4000000
structure PA where
 i : Nat
 L : List Msg
 b : Nat
 m : Nat
 g : Heap
structure PAI (vw sk : Int) (a : PA) : Prop where
 il : a.i ≤ 4
 ll : (a.L.length : Int) = if sk < (a.i : Int) then (a.i : Int) - 1 else a.i
 ok : lcI vw a.L a.i
 out : a.g a.b = some ⟨a.L.map Msg.V, 7, 37⟩
 bm : a.b < a.m
structure PB where
 i : Nat
 f : Bool
 m : Nat
 g : Heap
structure PBI (L : List Msg) (b B : Nat) (s : Pl) (len : Nat) (a : PB) : Prop where
 il : a.i ≤ len
 gl : a.g b = some ⟨L.map Msg.V, 7, 37⟩
 gb : a.g B = some ⟨(bsL s).map iV, 1, 3⟩
 bm : b < B ∧ B < a.m
theorem bsL_row (s : Pl) {x : Int} (h : 1 ≤ x ∧ x ≤ 8) : ((bsL s).map iV)[0 + x.toNat]? = some (iV (bsA s x.toNat)) := by
 rw [Nat.zero_add, List.getElem?_map]
 unfold bsL
 simp [show x.toNat < 9 by omega]
theorem bsA_y {s : Pl} {q : Nat} (h : (s.B.getD q Ct0).ps.length = 0) : bsA s q = 0 := if_pos h
theorem bsA_n {s : Pl} {q : Nat} (h : ¬ (s.B.getD q Ct0).ps.length = 0) : bsA s q = (s.B.getD q Ct0).vw + 1 := if_neg h
def nfd (L : List Msg) (c : Ct) (i : Nat) : Prop := 0 < c.ps.length ∧ ∀ j k, j < i → k < (vcO 4 (L.getD j Msg0)).length → (vcO 4 (L.getD j Msg0)).getD k Ct0 ≠ c
def nfk (m : Msg) (c : Ct) (k : Nat) : Prop := ∀ q, q < k → (vcO 4 m).getD q Ct0 ≠ c
theorem bcons {B : List Int} {x : Int} (h : bytes B) (hx : 0 ≤ x ∧ x < 256) : bytes (x :: B) := fun b hb => by
 rcases List.mem_cons.1 hb with q | q
 ·rw [q]; exact hx
 ·exact h b q
theorem wr_u8 {i : Nat} (h : i < 256) : IntKind.u8.wrap (i : Int) = (i : Int) := by simp [IntKind.wrap, IntKind.bits, IntKind.signed]; omega
theorem law4 (n1 n2 : Bool) (B1 B2 : List Int) (hB1 : bytes B1) (hB2 : bytes B2) : Pure En 4 [.one (.sl n1 (B1.map bT)), .one (.sl n2 (B2.map bT))] [.one (.bool true)] := by
 have hr1 : (B1.map bT).length = B1.length := List.length_map ..
 have hr2 : (B2.map bT).length = B2.length := List.length_map ..
 refine Pure.of_ev (st := [8, 19, 25, 33, 37, 41]) Tryz.func4 rfl kb ?_
 refine br ?_ ?_ <;> intro h1_2
 ·exact E4 rfl rfl
 ·refine br ?_ ?_ <;> intro h1_6
  ·exact E4 rfl rfl
  ·refine eclX (a22 n2 B2 hB2 (by omega) 0 4 (by decide) (by decide)) rfl j2 ?_
   rintro v0 h3_1
   try dsimp only at h3_1
   refine D6 ⟨by (first | omega), by (first | omega)⟩ ?_
   refine eclX (a22 n2 B2 hB2 (by omega) 1 4 (by decide) (by decide)) rfl j2 ?_
   rintro sk h4_1
   try dsimp only at h4_1
   refine D3 (es := []) j4 kz kb rfl rfl ?_
   refine U7 fun g0 hg0 => ?_
   refine A9 (fun (a : PA) => [.sl false n1 (B1.map bT), .sl false n2 (B2.map bT), .unk, .unk, .unk, .int .i64 (1 + v0), .int .i64 sk, .view a.b 0 a.L.length, .int .i64 (a.i : Int)]) (fun (a : PA) => a.g) (fun (a : PA) => a.m) (fun (a : PA) => PAI (1 + v0) sk a) (fun (a : PA) => 4 - a.i) ⟨0, [], 0, 1, g0⟩ ?_ ?_ ?_ ?_ ?_
   ·refine ⟨Nat.zero_le _, ?_, fun j hj => absurd hj (Nat.not_lt_zero j), ?_, by dsimp only; omega⟩
    ·dsimp only; rw [if_neg (by omega)]; rfl
    ·dsimp only; rw [hg0]; exact Q1
   ·(repeat first | exact LE.nil _ | refine LE.unk _ _ ?_ | refine LE.eq _ _ _ rfl ?_)
   ·exact LessH.refl _
   ·exact Nat.le_refl _
   intro ⟨i, L, b, m, g⟩ hI ih
   obtain ⟨il, ll, hok, hout, hbm⟩ := hI
   dsimp only at il ll hok hout hbm ⊢
   have hll3 : L.length ≤ 4 := by split at ll <;> omega
   have hrl : (B1.map bT).length = B1.length := List.length_map ..
   refine A7 (st := [8, 19, 25, 33, 37, 41]) ?_
   refine br ?_ ?_ <;> intro h7_1
   ·refine br ?_ ?_ <;> intro h9_2
    ·refine D3 (es := [[.int _ _]]) j4 kz kb rfl rfl ?_
     (apply eap (s' := 1)  rfl rfl; exact Q1; exact j2; (first | rfl | (rw [List.length_map]; done) | simp); exact j2; exact kz; (first | rfl | (apply E0 rfl; exact Q1; (first | exact Nat.le_refl _ | omega); rfl)); (first | rfl | assumption | (focus (exact K8 true _)) | (focus (exact K8 false _)) | (focus (intro c hc; simp only [List.mem_cons, List.not_mem_nil, or_false] at hc; rcases hc with rfl; rfl)) | (focus (simp; done)) | (focus (intro _ hc; rw [List.mem_singleton] at hc; subst hc; rfl)) | (intro _ _; simp_all)); exact Q36; exact Q36)
     apply eclSX [m + 1] (r23 true ((i : Int) :: B1) (bcons hB1 (by omega)) (by rw [List.length_cons]; omega) (i : Int) (1 + v0) (by omega)) rfl j2
     ·refine SnapL.cons _ _ _ _ (.one _ _ (N5 (B := (i : Int) :: B1) (List.mem_singleton.2 rfl) ?_ ?_)) (SnapL.cons _ _ _ _ (.one _ _ (.int _ _)) (SnapL.cons _ _ _ _ (.one _ _ (.int _ _)) (SnapL.cons _ _ _ _ (.one _ _ (.int _ _)) SnapL.nil)))
      ·(simp (disch := omega) only [↓app0, ↓appC, ↓updS, ↓updN]); exact congrArg (fun z => some (Blk.mk z 1 5)) (by rw [wr_u8 (i := i) (by omega)]; show _ ++ _ = _; rw [rowsBf]; rfl)
      ·simp; (try omega)
     rintro cs h10_8
     try dsimp only at h10_8
     refine D3 (es := [[.int _ _, .int _ _, .int _ _, .int _ _, .str _, .str _, .str _]]) j4 kz kb rfl rfl ?_
     (apply eap (s' := 80) (es := [[.int _ _, .int _ _, .int _ _, .int _ _, .str _, .str _, .str _]]) rfl rfl; exact Q1; exact j2; (first | rfl | (rw [List.length_map]; done) | simp); exact j2; exact kz; (first | rfl | (apply E0 rfl; exact Q1; (first | exact Nat.le_refl _ | omega); rfl)); (first | rfl | assumption | (focus (exact K8 true _)) | (focus (exact K8 false _)) | (focus (intro c hc; simp only [List.mem_cons, List.not_mem_nil, or_false] at hc; rcases hc with rfl; rfl)) | (focus (simp; done)) | (focus (intro _ hc; rw [List.mem_singleton] at hc; subst hc; rfl)) | (intro _ _; simp_all)); exact Q36; exact Q36)
     refine E1 fun GG hGG => ?_
     refine D6 ⟨by (first | omega), by (first | omega)⟩ ?_
     first
     | (
       refine C6 (ih ⟨i + 1, L, b, m, GG⟩ ⟨by dsimp only; omega, ?_, ?_, ?_, by dsimp only; omega⟩ (by dsimp only; omega)) (by (repeat first | exact LE.nil _ | refine LE.unk _ _ ?_ | refine LE.eq _ _ _ rfl ?_); done) (LessH.refl _) (Nat.le_refl _)
       · dsimp only; split at ll <;> split <;> omega
       · dsimp only; intro j hj; have q := hok j hj; exact ⟨q.1, q.2.1, by have := q.2.2; omega⟩
       · dsimp only; rw [hGG]; exact hout)
     | (
       refine C6 (ih ⟨i + 1, L ++ [chM (i : Int) (1 + v0) cs], m + 1 + 1 + 1, m + 1 + 1 + 1 + 1, GG⟩ ⟨by dsimp only; omega, ?_, ?_, ?_, by dsimp only; omega⟩ (by dsimp only; omega)) (by (repeat first | exact LE.nil _ | refine LE.unk _ _ ?_ | refine LE.eq _ _ _ rfl ?_ | refine LE.eq _ _ _ (congrArg (V.view _ 0) (by simp)) ?_)) (LessH.refl _) (Nat.le_refl _)
       · dsimp only; rw [List.length_append]; show ((L.length + 1 : Nat) : Int) = _; split at ll <;> split <;> omega
       · exact lcI_more hok (by omega) h10_8.1 h10_8.2
       · dsimp only; rw [hGG, List.map_append]; (simp (disch := omega) only [↓app0, ↓appC, ↓updS, ↓updN, List.drop_zero]); (try rfl))
    ·refine E1 fun GG hGG => ?_
     refine D6 ⟨by (first | omega), by (first | omega)⟩ ?_
     first
     | (
       refine C6 (ih ⟨i + 1, L, b, m, GG⟩ ⟨by dsimp only; omega, ?_, ?_, ?_, by dsimp only; omega⟩ (by dsimp only; omega)) (by (repeat first | exact LE.nil _ | refine LE.unk _ _ ?_ | refine LE.eq _ _ _ rfl ?_); done) (LessH.refl _) (Nat.le_refl _)
       · dsimp only; split at ll <;> split <;> omega
       · dsimp only; intro j hj; have q := hok j hj; exact ⟨q.1, q.2.1, by have := q.2.2; omega⟩
       · dsimp only; rw [hGG]; exact hout)
     | (
       refine C6 (ih ⟨i + 1, L ++ [chM (i : Int) (1 + v0) cs], m + 1 + 1 + 1, m + 1 + 1 + 1 + 1, GG⟩ ⟨by dsimp only; omega, ?_, ?_, ?_, by dsimp only; omega⟩ (by dsimp only; omega)) (by (repeat first | exact LE.nil _ | refine LE.unk _ _ ?_ | refine LE.eq _ _ _ rfl ?_ | refine LE.eq _ _ _ (congrArg (V.view _ 0) (by simp)) ?_)) (LessH.refl _) (Nat.le_refl _)
       · dsimp only; rw [List.length_append]; show ((L.length + 1 : Nat) : Int) = _; split at ll <;> split <;> omega
       · exact lcI_more hok (by omega) h10_8.1 h10_8.2
       · dsimp only; rw [hGG, List.map_append]; (simp (disch := omega) only [↓app0, ↓appC, ↓updS, ↓updN, List.drop_zero]); (try rfl))
   ·have hl3 : L.length = 3 := by split at ll <;> omega
    have hplan := hok.plan (by omega) hl3
    have hpn := pn_ok hplan (by omega) hl3
    have hpo : ∀ j, j < L.length → okV 4 (L.getD j Msg0) := fun j hj => (hplan.2 j hj).1
    have hpg := PlG.pl 4 L L.length
    have hpl : (pnO 4 (1 + v0) L).length ≤ 1048577 := by rw [hpn.2, L5]; have := hpg.hi; omega
    have hpz : (pnO 4 (1 + v0) L).length = (plS 4 L L.length).last.toNat := by rw [hpn.2, L5]
    apply T3 [b] (s16 4 (1 + v0) L true) rfl rfl rfl
    ·exact SnapL.cons _ _ _ _ (.one _ _ (.int _ _)) (SnapL.cons _ _ _ _ (.one _ _ (.int _ _)) (SnapL.cons _ _ _ _ (.one _ _ (A3 (b := ⟨L.map Msg.V, 7, 37⟩) (L.map Msg.T) (List.mem_singleton.2 rfl) (by exact Q1) (rowsMg _) (List.length_map ..).symm)) SnapL.nil))
    apply T3 [b] (r14 4 (1 + v0) L true) rfl rfl rfl
    ·exact SnapL.cons _ _ _ _ (.one _ _ (.int _ _)) (SnapL.cons _ _ _ _ (.one _ _ (.int _ _)) (SnapL.cons _ _ _ _ (.one _ _ (A3 (b := ⟨L.map Msg.V, 7, 37⟩) (L.map Msg.T) (List.mem_singleton.2 rfl) (by exact Q1) (rowsMg _) (List.length_map ..).symm)) SnapL.nil))
    refine br (fun h => absurd h ((by rw [hpn.1]; decide))) ?_
    intro h13_1
    refine C8 (s24 false false (pnO 4 (1 + v0) L) hpl) rfl rfl rfl ?_
    refine emk (s' := 8) j6 kz ?_ ?_ ?_
    ·exact N4
    ·exact N4
    refine U7 fun g2 hg2 => ?_
    refine A9 (fun (a : PB) => [.sl false n1 (B1.map bT), .unk, .unk, .unk, .unk, .unk, .unk, .view b 0 L.length, .unk, .sl true false ((pnO 4 (1 + v0) L).map tT), .unk, .unk, .unk, .view m 0 9, .int .i64 (plS 4 L a.i).last, .int .i64 (a.i : Int)]) (fun (a : PB) => a.g) (fun (a : PB) => a.m) (fun (a : PB) => PBI L b m (plS 4 L a.i) L.length a) (fun (a : PB) => L.length - a.i) ⟨0, false, m + 1, g2⟩ ?_ ?_ ?_ ?_ ?_
    ·refine ⟨Nat.zero_le _, ?_, ?_, by dsimp only; omega⟩
     ·dsimp only; rw [hg2]; exact Q1
     ·dsimp only; rw [hg2]; exact lkS rfl rfl
    ·(repeat first | exact LE.nil _ | refine LE.unk _ _ ?_ | refine LE.eq _ _ _ rfl ?_)
    ·exact LessH.refl _
    ·exact Nat.le_refl _
    intro ⟨i, f1, m1, g1⟩ hI ih
    obtain ⟨il1, gl1, gb1, bm1⟩ := hI
    dsimp only at il1 gl1 gb1 bm1 ⊢
    have hpi := PlG.pl 4 L i
    have ih1 := ih
    refine A7 (st := [8, 19, 25, 33, 37, 41]) ?_
    refine br ?_ ?_ <;> intro h18_3
    ·(refine mem (by exact Q1) ⟨rfl, sd (by exact ⟨by exact N4, by exact N4⟩) ?_⟩)
     (apply D2 (vs := [.int _ _, .int _ _, .int _ _, .int _ _, .str _, .str _, .str _]) j2; exact Q1; exact Q11; rfl; exact kb; rfl)
     refine C8 (s25 (L.getD i Msg0) (hpo i (by omega))) rfl rfl rfl ?_
     refine br (fun h => absurd h ((fun hh => hh rfl))) ?_
     intro h21_1
     refine A9 (fun (a : PB) => [.sl false n1 (B1.map bT), .unk, .unk, .unk, .unk, .unk, .unk, .view b 0 L.length, .unk, .sl true false ((pnO 4 (1 + v0) L).map tT), .unk, .unk, .unk, .view m 0 9, .int .i64 (rnS (plS 4 L i) (vcO 4 (L.getD i Msg0)) a.i).last, .int .i64 (i : Int), .sl true false ((vcO 4 (L.getD i Msg0)).map (Ct.T false)), .unk, .int .i64 (a.i : Int)]) (fun (a : PB) => a.g) (fun (a : PB) => a.m) (fun (a : PB) => PBI L b m (rnS (plS 4 L i) (vcO 4 (L.getD i Msg0)) a.i) (vcO 4 (L.getD i Msg0)).length a) (fun (a : PB) => (vcO 4 (L.getD i Msg0)).length - a.i) ⟨0, false, m1, g1⟩ ?_ ?_ ?_ ?_ ?_
     ·exact ⟨Nat.zero_le _, gl1, gb1, bm1⟩
     ·(repeat first | exact LE.nil _ | refine LE.unk _ _ ?_ | refine LE.eq _ _ _ rfl ?_)
     ·exact LessH.refl _
     ·exact Nat.le_refl _
     intro ⟨k, f2, m2, g3⟩ hI ih
     obtain ⟨il2, gl2, gb2, bm2⟩ := hI
     dsimp only at il2 gl2 gb2 bm2 ⊢
     have hvl := J5 4 (L.getD i Msg0)
     have hvr : ((vcO 4 (L.getD i Msg0)).map (Ct.T false)).length = (vcO 4 (L.getD i Msg0)).length := List.length_map ..
     have hpr := hpi.rn (C1 4 (L.getD i Msg0)) k il2
     refine A7 (st := [8, 19, 25, 33, 37, 41]) ?_
     refine br ?_ ?_ <;> intro h24_3
     ·have hgd := C1 4 (L.getD i Msg0) k (by omega)
      have hvw := T1 (n := 4) (m := L.getD i Msg0) k (by omega)
      have hp0 := hgd.1
      have hs0 : 1 ≤ (((vcO 4 (L.getD i Msg0)).getD k Ct0).ps.getD 0 Msg0).sq ∧ (((vcO 4 (L.getD i Msg0)).getD k Ct0).ps.getD 0 Msg0).sq ≤ 8 := hgd.2
      have hv0 : 0 ≤ (((vcO 4 (L.getD i Msg0)).getD k Ct0).ps.getD 0 Msg0).vw ∧ (((vcO 4 (L.getD i Msg0)).getD k Ct0).ps.getD 0 Msg0).vw ≤ 20 := hvw
      have hpx : (((vcO 4 (L.getD i Msg0)).getD k Ct0).ps.map Msg.T).length = ((vcO 4 (L.getD i Msg0)).getD k Ct0).ps.length := List.length_map ..
      (refine sd (by exact N4) (D7 (by first | rfl | assumption | exact Q9) rfl ?_))
      (refine sd (by exact N4) (D7 (by first | rfl | assumption | exact Q9) rfl ?_))
      (apply est (u := .agg [.int _ _, .int _ _, .int _ _, .int _ _, .str _, .str _, .str _]) j3; exact Q1; exact Q11; exact j4; exact kb; rfl)
      refine A4 ?_ (by exact Q1) (by exact Q11)
      refine A4 ?_ (by exact Q1) (by exact Q11)
      (refine mem (by exact Q1) ⟨rfl, sd (by exact ⟨by exact N4, by exact N4⟩) ?_⟩)
      refine A4 ?_ (by exact Q1) (by exact Q11)
      refine A4 ?_ (by exact Q1) (by exact Q11)
      refine D6 ⟨by (first | omega), by (first | omega)⟩ ?_
      (refine mem (by exact Q1) ⟨rfl, sd (by exact ⟨by exact N4, by exact N4⟩) ?_⟩)
      (apply est (u := .int _ _) j3; exact Q1; exact Q11; exact j4; exact kb; rfl)
      refine F6 ?_
      refine A4 ?_ (by exact Q1) (by exact Q11)
      refine E1 fun G25 hG25 => ?_
      refine D6 ⟨by (first | omega), by (first | omega)⟩ ?_
      exact C6 (ih ⟨k + 1, f2, m2 + 1, G25⟩ ⟨by dsimp only; omega, by dsimp only; rw [hG25]; exact Q1, by dsimp only; rw [hG25, show rnS (plS 4 L i) (vcO 4 (L.getD i Msg0)) (k + 1) = (rnS (plS 4 L i) (vcO 4 (L.getD i Msg0)) k).step ((vcO 4 (L.getD i Msg0)).getD k Ct0) from rfl, bsL_step hpr.len hgd hvw.1, List.map_set]; (simp (disch := omega) only [↓app0, ↓appC, ↓updS, ↓updN]); exact congrArg (fun z => some (Blk.mk z 1 3)) (congrArg (fun z => List.set _ z _) (Nat.zero_add _)), by dsimp only; omega⟩ (by dsimp only; omega)) (by (repeat first | exact LE.nil _ | refine LE.unk _ _ ?_ | refine LE.eq _ _ _ rfl ?_)) (LessH.refl _) (Nat.le_refl _)
     ·refine E1 fun G19 hG19 => ?_
      refine D6 ⟨by (first | omega), by (first | omega)⟩ ?_
      exact C6 (ih1 ⟨i + 1, f1, m2, G19⟩ ⟨by dsimp only; omega, by dsimp only; rw [hG19]; exact gl2, by dsimp only; rw [hG19, show plS 4 L (i + 1) = rnS (plS 4 L i) (vcO 4 (L.getD i Msg0)) (vcO 4 (L.getD i Msg0)).length from rfl, ← show k = (vcO 4 (L.getD i Msg0)).length by omega]; exact gb2, by dsimp only; omega⟩ (by dsimp only; omega)) (by (repeat first | exact LE.nil _ | refine LE.unk _ _ ?_ | refine LE.eq _ _ _ rfl ?_ | refine LE.eq _ _ _ (by dsimp only; rw [show plS 4 L (i + 1) = rnS (plS 4 L i) (vcO 4 (L.getD i Msg0)) (vcO 4 (L.getD i Msg0)).length from rfl, ← show k = (vcO 4 (L.getD i Msg0)).length by omega]; rfl) ?_)) (LessH.refl _) (Nat.le_refl _)
    ·obtain rfl : i = L.length := by omega
     refine br (fun h => absurd h ((fun hh => hh (by rw [List.length_map, hpz]; have := hpg.lo; omega)))) ?_
     intro h29_3
     refine A9 (fun (a : PB) => [.sl false n1 (B1.map bT), .unk, .unk, .unk, .unk, .unk, .unk, .view b 0 L.length, .unk, .sl true false ((pnO 4 (1 + v0) L).map tT), .unk, .unk, .unk, .view m 0 9, .int .i64 (plS 4 L L.length).last, .unk, .unk, .unk, .unk, .unk, .int .i64 (a.i : Int)]) (fun (a : PB) => a.g) (fun (a : PB) => a.m) (fun (a : PB) => (1 ≤ a.i ∧ (a.i : Int) ≤ (plS 4 L L.length).last + 1) ∧ PBI L b m (plS 4 L L.length) 100 a) (fun (a : PB) => ((plS 4 L L.length).last + 1 - a.i).toNat) ⟨1, false, m1, g1⟩ ?_ ?_ ?_ ?_ ?_
     ·exact ⟨⟨Nat.le_refl _, by have := hpg.lo; dsimp only; omega⟩, by dsimp only; omega, gl1, gb1, bm1⟩
     ·(repeat first | exact LE.nil _ | refine LE.unk _ _ ?_ | refine LE.eq _ _ _ rfl ?_)
     ·exact LessH.refl _
     ·exact Nat.le_refl _
     intro ⟨sq, f3, m3, g4⟩ hI ih
     obtain ⟨hsq, il3, gl3, gb3, bm3⟩ := hI
     dsimp only at hsq il3 gl3 gb3 bm3 ⊢
     have ih3 := ih
     have hlo := hpg.lo
     have hhi := hpg.hi
     have hPM := PlM.pl 4 L L.length (Nat.le_refl _)
     have hpr9 : ((pnO 4 (1 + v0) L).map tT).length = (pnO 4 (1 + v0) L).length := List.length_map ..
     refine A7 (st := [8, 19, 25, 33, 37, 41]) ?_
     refine br ?_ ?_ <;> intro h32_2
     ·have hpx9 : (pnO 4 (1 + v0) L).getD (sq - 1) ⟨#[]⟩ = if ((plS 4 L L.length).B.getD sq Ct0).ps.length = 0 then nullT else ((plS 4 L L.length).B.getD sq Ct0).bd := by
       rw [hpn.2, ouP_get _ _ _ (by omega), show sq - 1 + 1 = sq by omega]
      have hz9 : bsA (plS 4 L L.length) ((sq : Int)).toNat = 0 → ((plS 4 L L.length).B.getD sq Ct0).ps.length = 0 := fun e => by
       have e : bsA (plS 4 L L.length) sq = 0 := e
       refine Classical.byContradiction fun q => ?_
       rw [bsA_n q] at e
       have := (hPM sq (by omega)).2.1
       omega
      (refine mem (by exact Q1) ⟨rfl, sd (by exact ⟨by exact N4, by exact N4⟩) ?_⟩)
      refine A4 ?_ (by exact Q1) (by exact Q11)
      refine br ?_ ?_ <;> intro h34_4
      ·refine D6 ⟨by (first | omega), by (first | omega)⟩ ?_
       (refine sd (by exact N4) (D7 (by first | rfl | assumption | exact Q9) rfl ?_))
       refine br ?_ (fun h => absurd ((by rw [hpx9, if_pos (hz9 h34_4)]; rfl)) h)
       intro h34_11
       first
       | (have hh := h34_11; obtain ⟨f0, hf0, hn0⟩ : ∃ f0 : Bool, f0 = true ∧ (f0 = false → nfd L ((plS 4 L L.length).B.getD sq Ct0) 0) := ⟨true, rfl, fun h => by cases h⟩)
       | (obtain ⟨f0, hf0, hn0⟩ : ∃ f0 : Bool, f0 = false ∧ (f0 = false → nfd L ((plS 4 L L.length).B.getD sq Ct0) 0) := ⟨false, rfl, fun _ => ⟨Nat.pos_of_ne_zero fun q => h34_4 (bsA_y q), fun j k hj => absurd hj (Nat.not_lt_zero j)⟩⟩)
       refine A9 (fun (a : PB) => [.sl false n1 (B1.map bT), .unk, .unk, .unk, .unk, .unk, .unk, .view b 0 L.length, .unk, .sl true false ((pnO 4 (1 + v0) L).map tT), .unk, .unk, .unk, .view m 0 9, .int .i64 (plS 4 L L.length).last, .unk, .unk, .unk, .unk, .unk, .int .i64 (sq : Int), .bool a.f, .int .i64 (a.i : Int)]) (fun (a : PB) => a.g) (fun (a : PB) => a.m) (fun (a : PB) => PBI L b m (plS 4 L L.length) L.length a ∧ (a.f = false → nfd L ((plS 4 L L.length).B.getD sq Ct0) a.i)) (fun (a : PB) => L.length - a.i) ⟨0, f0, m3, g4⟩ ?_ ?_ ?_ ?_ ?_
       ·exact ⟨⟨Nat.zero_le _, gl3, gb3, bm3⟩, hn0⟩
       ·(repeat first | exact LE.nil _ | refine LE.unk _ _ ?_ | refine LE.eq _ _ _ rfl ?_ | refine LE.eq _ _ _ (congrArg V.bool hf0.symm) ?_)
       ·exact LessH.refl _
       ·exact Nat.le_refl _
       intro ⟨i2, f4, m4, g5⟩ hI ih
       obtain ⟨⟨il5, gl5, gb5, bm5⟩, hf4⟩ := hI
       dsimp only at il5 gl5 gb5 bm5 hf4 ⊢
       have ih4 := ih
       refine A7 (st := [8, 19, 25, 33, 37, 41]) ?_
       refine br ?_ ?_ <;> intro h36_3
       ·(refine mem (by exact Q1) ⟨rfl, sd (by exact ⟨by exact N4, by exact N4⟩) ?_⟩)
        (apply D2 (vs := [.int _ _, .int _ _, .int _ _, .int _ _, .str _, .str _, .str _]) j2; exact Q1; exact Q11; rfl; exact kb; rfl)
        refine C8 (s25 (L.getD i2 Msg0) (hpo i2 (by omega))) rfl rfl rfl ?_
        refine A9 (fun (a : PB) => [.sl false n1 (B1.map bT), .unk, .unk, .unk, .unk, .unk, .unk, .view b 0 L.length, .unk, .sl true false ((pnO 4 (1 + v0) L).map tT), .unk, .unk, .unk, .view m 0 9, .int .i64 (plS 4 L L.length).last, .unk, .unk, .unk, .unk, .unk, .int .i64 (sq : Int), .bool a.f, .int .i64 (i2 : Int), .sl true false ((vcO 4 (L.getD i2 Msg0)).map (Ct.T false)), .unk, .int .i64 (a.i : Int)]) (fun (a : PB) => a.g) (fun (a : PB) => a.m) (fun (a : PB) => PBI L b m (plS 4 L L.length) (vcO 4 (L.getD i2 Msg0)).length a ∧ (a.f = false → nfd L ((plS 4 L L.length).B.getD sq Ct0) i2 ∧ nfk (L.getD i2 Msg0) ((plS 4 L L.length).B.getD sq Ct0) a.i)) (fun (a : PB) => (vcO 4 (L.getD i2 Msg0)).length - a.i) ⟨0, f4, m4, g5⟩ ?_ ?_ ?_ ?_ ?_
        ·exact ⟨⟨Nat.zero_le _, gl5, gb5, bm5⟩, fun h => ⟨hf4 h, fun q hq => absurd hq (Nat.not_lt_zero q)⟩⟩
        ·(repeat first | exact LE.nil _ | refine LE.unk _ _ ?_ | refine LE.eq _ _ _ rfl ?_)
        ·exact LessH.refl _
        ·exact Nat.le_refl _
        intro ⟨k2, f5, m5, g6⟩ hI ih
        obtain ⟨⟨il6, gl6, gb6, bm6⟩, hf5⟩ := hI
        dsimp only at il6 gl6 gb6 bm6 hf5 ⊢
        have ih5 := ih
        have hvl := J5 4 (L.getD i2 Msg0)
        have hvr : ((vcO 4 (L.getD i2 Msg0)).map (Ct.T false)).length = (vcO 4 (L.getD i2 Msg0)).length := List.length_map ..
        cases f5
        ·skip
         obtain ⟨hnf, hnk⟩ := hf5 rfl
         have hc1 := (hPM sq hnf.1).1
         have hc2 : bsA (plS 4 L L.length) sq = ((plS 4 L L.length).B.getD sq Ct0).vw + 1 := bsA_n (by have := hnf.1; omega)
         have hc3 : (pnO 4 (1 + v0) L).getD (sq - 1) ⟨#[]⟩ = ((plS 4 L L.length).B.getD sq Ct0).bd := by rw [hpx9, if_neg (by have := hnf.1; omega)]
         refine A7 (st := [8, 19, 25, 33, 37, 41]) ?_
         refine br ?_ ?_ <;> intro h40_3
         ·have hgd := C1 4 (L.getD i2 Msg0) k2 (by omega)
          have hvw := T1 (n := 4) (m := L.getD i2 Msg0) k2 (by omega)
          have hp0 := hgd.1
          have hs0 : 1 ≤ (((vcO 4 (L.getD i2 Msg0)).getD k2 Ct0).ps.getD 0 Msg0).sq ∧ (((vcO 4 (L.getD i2 Msg0)).getD k2 Ct0).ps.getD 0 Msg0).sq ≤ 8 := hgd.2
          have hv0 : 0 ≤ (((vcO 4 (L.getD i2 Msg0)).getD k2 Ct0).ps.getD 0 Msg0).vw ∧ (((vcO 4 (L.getD i2 Msg0)).getD k2 Ct0).ps.getD 0 Msg0).vw ≤ 20 := hvw
          have hpx : (((vcO 4 (L.getD i2 Msg0)).getD k2 Ct0).ps.map Msg.T).length = ((vcO 4 (L.getD i2 Msg0)).getD k2 Ct0).ps.length := List.length_map ..
          (refine sd (by exact N4) (D7 (by first | rfl | assumption | exact Q9) rfl ?_))
          (refine sd (by exact N4) (D7 (by first | rfl | assumption | exact Q9) rfl ?_))
          (apply est (u := .agg [.int _ _, .int _ _, .int _ _, .int _ _, .str _, .str _, .str _]) j3; exact Q1; exact Q11; exact j4; exact kb; rfl)
          refine A4 ?_ (by exact Q1) (by exact Q11)
          refine br ?_ ?_ <;> intro h43_5
          ·refine A4 ?_ (by exact Q1) (by exact Q11)
           refine D6 ⟨by (first | omega), by (first | omega)⟩ ?_
           (refine mem (by exact Q1) ⟨rfl, sd (by exact ⟨by exact N4, by exact N4⟩) ?_⟩)
           refine A4 ?_ (by exact Q1) (by exact Q11)
           refine br ?_ ?_ <;> intro h43_14
           ·(refine sd (by exact N4) (D7 (by first | rfl | assumption | exact Q9) rfl ?_))
            refine D6 ⟨by (first | omega), by (first | omega)⟩ ?_
            (refine sd (by exact N4) (D7 (by first | rfl | assumption | exact Q9) rfl ?_))
            refine br ?_ ?_ <;> intro h43_27
            ·refine E1 fun G41 hG41 => ?_
             refine D6 ⟨by (first | omega), by (first | omega)⟩ ?_
             first
             | (
               refine C6 (ih5 ⟨k2 + 1, true, m5 + 1, G41⟩ ⟨⟨by dsimp only; omega, by dsimp only; rw [hG41]; exact Q1, by dsimp only; rw [hG41]; exact Q1, by dsimp only; omega⟩, fun h => by cases h⟩ (by dsimp only; omega)) ?_ (LessH.refl _) (Nat.le_refl _); (repeat first | exact LE.nil _ | refine LE.unk _ _ ?_ | refine LE.eq _ _ _ rfl ?_); done)
             | (
               refine C6 (ih5 ⟨k2 + 1, false, m5 + 1, G41⟩ ⟨⟨by dsimp only; omega, by dsimp only; rw [hG41]; exact Q1, by dsimp only; rw [hG41]; exact Q1, by dsimp only; omega⟩, fun _ => ⟨hnf, fun q hq => by
                   by_cases e : q = k2
                   · subst e
                     intro e
                     first
                     | exact h43_5 (by show ((vcO 4 (L.getD i2 Msg0)).getD q Ct0).sq = (sq : Int); rw [e]; exact hc1)
                     | exact h43_14 (by show ((vcO 4 (L.getD i2 Msg0)).getD q Ct0).vw + 1 = bsA (plS 4 L L.length) sq; rw [e, hc2])
                     | exact h43_27 (by rw [e, hc3])
                   · exact hnk q (by dsimp only at hq; omega)⟩⟩ (by dsimp only; omega)) ?_ (LessH.refl _) (Nat.le_refl _); (repeat first | exact LE.nil _ | refine LE.unk _ _ ?_ | refine LE.eq _ _ _ rfl ?_); done)
            ·refine E1 fun G41 hG41 => ?_
             refine D6 ⟨by (first | omega), by (first | omega)⟩ ?_
             first
             | (
               refine C6 (ih5 ⟨k2 + 1, true, m5 + 1, G41⟩ ⟨⟨by dsimp only; omega, by dsimp only; rw [hG41]; exact Q1, by dsimp only; rw [hG41]; exact Q1, by dsimp only; omega⟩, fun h => by cases h⟩ (by dsimp only; omega)) ?_ (LessH.refl _) (Nat.le_refl _); (repeat first | exact LE.nil _ | refine LE.unk _ _ ?_ | refine LE.eq _ _ _ rfl ?_); done)
             | (
               refine C6 (ih5 ⟨k2 + 1, false, m5 + 1, G41⟩ ⟨⟨by dsimp only; omega, by dsimp only; rw [hG41]; exact Q1, by dsimp only; rw [hG41]; exact Q1, by dsimp only; omega⟩, fun _ => ⟨hnf, fun q hq => by
                   by_cases e : q = k2
                   · subst e
                     intro e
                     first
                     | exact h43_5 (by show ((vcO 4 (L.getD i2 Msg0)).getD q Ct0).sq = (sq : Int); rw [e]; exact hc1)
                     | exact h43_14 (by show ((vcO 4 (L.getD i2 Msg0)).getD q Ct0).vw + 1 = bsA (plS 4 L L.length) sq; rw [e, hc2])
                     | exact h43_27 (by rw [e, hc3])
                   · exact hnk q (by dsimp only at hq; omega)⟩⟩ (by dsimp only; omega)) ?_ (LessH.refl _) (Nat.le_refl _); (repeat first | exact LE.nil _ | refine LE.unk _ _ ?_ | refine LE.eq _ _ _ rfl ?_); done)
           ·refine E1 fun G41 hG41 => ?_
            refine D6 ⟨by (first | omega), by (first | omega)⟩ ?_
            first
            | (
              refine C6 (ih5 ⟨k2 + 1, true, m5 + 1, G41⟩ ⟨⟨by dsimp only; omega, by dsimp only; rw [hG41]; exact Q1, by dsimp only; rw [hG41]; exact Q1, by dsimp only; omega⟩, fun h => by cases h⟩ (by dsimp only; omega)) ?_ (LessH.refl _) (Nat.le_refl _); (repeat first | exact LE.nil _ | refine LE.unk _ _ ?_ | refine LE.eq _ _ _ rfl ?_); done)
            | (
              refine C6 (ih5 ⟨k2 + 1, false, m5 + 1, G41⟩ ⟨⟨by dsimp only; omega, by dsimp only; rw [hG41]; exact Q1, by dsimp only; rw [hG41]; exact Q1, by dsimp only; omega⟩, fun _ => ⟨hnf, fun q hq => by
                  by_cases e : q = k2
                  · subst e
                    intro e
                    first
                    | exact h43_5 (by show ((vcO 4 (L.getD i2 Msg0)).getD q Ct0).sq = (sq : Int); rw [e]; exact hc1)
                    | exact h43_14 (by show ((vcO 4 (L.getD i2 Msg0)).getD q Ct0).vw + 1 = bsA (plS 4 L L.length) sq; rw [e, hc2])
                    | exact h43_27 (by rw [e, hc3])
                  · exact hnk q (by dsimp only at hq; omega)⟩⟩ (by dsimp only; omega)) ?_ (LessH.refl _) (Nat.le_refl _); (repeat first | exact LE.nil _ | refine LE.unk _ _ ?_ | refine LE.eq _ _ _ rfl ?_); done)
          ·refine E1 fun G41 hG41 => ?_
           refine D6 ⟨by (first | omega), by (first | omega)⟩ ?_
           first
           | (
             refine C6 (ih5 ⟨k2 + 1, true, m5 + 1, G41⟩ ⟨⟨by dsimp only; omega, by dsimp only; rw [hG41]; exact Q1, by dsimp only; rw [hG41]; exact Q1, by dsimp only; omega⟩, fun h => by cases h⟩ (by dsimp only; omega)) ?_ (LessH.refl _) (Nat.le_refl _); (repeat first | exact LE.nil _ | refine LE.unk _ _ ?_ | refine LE.eq _ _ _ rfl ?_); done)
           | (
             refine C6 (ih5 ⟨k2 + 1, false, m5 + 1, G41⟩ ⟨⟨by dsimp only; omega, by dsimp only; rw [hG41]; exact Q1, by dsimp only; rw [hG41]; exact Q1, by dsimp only; omega⟩, fun _ => ⟨hnf, fun q hq => by
                 by_cases e : q = k2
                 · subst e
                   intro e
                   first
                   | exact h43_5 (by show ((vcO 4 (L.getD i2 Msg0)).getD q Ct0).sq = (sq : Int); rw [e]; exact hc1)
                   | exact h43_14 (by show ((vcO 4 (L.getD i2 Msg0)).getD q Ct0).vw + 1 = bsA (plS 4 L L.length) sq; rw [e, hc2])
                   | exact h43_27 (by rw [e, hc3])
                 · exact hnk q (by dsimp only at hq; omega)⟩⟩ (by dsimp only; omega)) ?_ (LessH.refl _) (Nat.le_refl _); (repeat first | exact LE.nil _ | refine LE.unk _ _ ?_ | refine LE.eq _ _ _ rfl ?_); done)
         ·refine E1 fun G37 hG37 => ?_
          refine D6 ⟨by (first | omega), by (first | omega)⟩ ?_
          first
          | (refine C6 (ih4 ⟨i2 + 1, true, m5, G37⟩ ⟨⟨by dsimp only; omega, by dsimp only; rw [hG37]; exact gl6, by dsimp only; rw [hG37]; exact gb6, bm6⟩, fun h => by cases h⟩ (by dsimp only; omega)) ?_ (LessH.refl _) (Nat.le_refl _); (repeat first | exact LE.nil _ | refine LE.unk _ _ ?_ | refine LE.eq _ _ _ rfl ?_); done)
          | (refine C6 (ih4 ⟨i2 + 1, false, m5, G37⟩ ⟨⟨by dsimp only; omega, by dsimp only; rw [hG37]; exact gl6, by dsimp only; rw [hG37]; exact gb6, bm6⟩, fun _ => ⟨hnf.1, fun j q hj hq => by
              by_cases e : j = i2
              · subst e; exact hnk q (by omega)
              · exact hnf.2 j q (by dsimp only at hj; omega) hq⟩⟩ (by dsimp only; omega)) ?_ (LessH.refl _) (Nat.le_refl _); (repeat first | exact LE.nil _ | refine LE.unk _ _ ?_ | refine LE.eq _ _ _ rfl ?_); done)
        ·skip
         skip
         refine A7 (st := [8, 19, 25, 33, 37, 41]) ?_
         refine br ?_ ?_ <;> intro h40_3
         ·have hgd := C1 4 (L.getD i2 Msg0) k2 (by omega)
          have hvw := T1 (n := 4) (m := L.getD i2 Msg0) k2 (by omega)
          have hp0 := hgd.1
          have hs0 : 1 ≤ (((vcO 4 (L.getD i2 Msg0)).getD k2 Ct0).ps.getD 0 Msg0).sq ∧ (((vcO 4 (L.getD i2 Msg0)).getD k2 Ct0).ps.getD 0 Msg0).sq ≤ 8 := hgd.2
          have hv0 : 0 ≤ (((vcO 4 (L.getD i2 Msg0)).getD k2 Ct0).ps.getD 0 Msg0).vw ∧ (((vcO 4 (L.getD i2 Msg0)).getD k2 Ct0).ps.getD 0 Msg0).vw ≤ 20 := hvw
          have hpx : (((vcO 4 (L.getD i2 Msg0)).getD k2 Ct0).ps.map Msg.T).length = ((vcO 4 (L.getD i2 Msg0)).getD k2 Ct0).ps.length := List.length_map ..
          (refine sd (by exact N4) (D7 (by first | rfl | assumption | exact Q9) rfl ?_))
          (refine sd (by exact N4) (D7 (by first | rfl | assumption | exact Q9) rfl ?_))
          (apply est (u := .agg [.int _ _, .int _ _, .int _ _, .int _ _, .str _, .str _, .str _]) j3; exact Q1; exact Q11; exact j4; exact kb; rfl)
          refine E1 fun G41 hG41 => ?_
          refine D6 ⟨by (first | omega), by (first | omega)⟩ ?_
          refine C6 (ih5 ⟨k2 + 1, true, m5 + 1, G41⟩ ⟨⟨by dsimp only; omega, by dsimp only; rw [hG41]; exact Q1, by dsimp only; rw [hG41]; exact Q1, by dsimp only; omega⟩, fun h => by cases h⟩ (by dsimp only; omega)) ?_ (LessH.refl _) (Nat.le_refl _); (repeat first | exact LE.nil _ | refine LE.unk _ _ ?_ | refine LE.eq _ _ _ rfl ?_); done
         ·refine E1 fun G37 hG37 => ?_
          refine D6 ⟨by (first | omega), by (first | omega)⟩ ?_
          first
          | (refine C6 (ih4 ⟨i2 + 1, true, m5, G37⟩ ⟨⟨by dsimp only; omega, by dsimp only; rw [hG37]; exact gl6, by dsimp only; rw [hG37]; exact gb6, bm6⟩, fun h => by cases h⟩ (by dsimp only; omega)) ?_ (LessH.refl _) (Nat.le_refl _); (repeat first | exact LE.nil _ | refine LE.unk _ _ ?_ | refine LE.eq _ _ _ rfl ?_); done)
          | (refine C6 (ih4 ⟨i2 + 1, false, m5, G37⟩ ⟨⟨by dsimp only; omega, by dsimp only; rw [hG37]; exact gl6, by dsimp only; rw [hG37]; exact gb6, bm6⟩, fun _ => ⟨hnf.1, fun j q hj hq => by
              by_cases e : j = i2
              · subst e; exact hnk q (by omega)
              · exact hnf.2 j q (by dsimp only at hj; omega) hq⟩⟩ (by dsimp only; omega)) ?_ (LessH.refl _) (Nat.le_refl _); (repeat first | exact LE.nil _ | refine LE.unk _ _ ?_ | refine LE.eq _ _ _ rfl ?_); done)
       ·cases h44_0 : f4
        ·have hnf := hf4 h44_0
         obtain ⟨_, _, j, k, hj, hk, e⟩ := hPM sq hnf.1
         exact absurd e (hnf.2 j k (by omega) hk)
        ·refine E1 fun G33 hG33 => ?_
         refine D6 ⟨by (first | omega), by (first | omega)⟩ ?_
         exact C6 (ih3 ⟨sq + 1, f4, m4, G33⟩ ⟨⟨by dsimp only; omega, by dsimp only; omega⟩, by dsimp only; omega, by dsimp only; rw [hG33]; exact gl5, by dsimp only; rw [hG33]; exact gb5, bm5⟩ (by dsimp only; omega)) (by (repeat first | exact LE.nil _ | refine LE.unk _ _ ?_ | refine LE.eq _ _ _ rfl ?_); done) (LessH.refl _) (Nat.le_refl _)
      ·first
       | (have hh := h34_11; obtain ⟨f0, hf0, hn0⟩ : ∃ f0 : Bool, f0 = true ∧ (f0 = false → nfd L ((plS 4 L L.length).B.getD sq Ct0) 0) := ⟨true, rfl, fun h => by cases h⟩)
       | (obtain ⟨f0, hf0, hn0⟩ : ∃ f0 : Bool, f0 = false ∧ (f0 = false → nfd L ((plS 4 L L.length).B.getD sq Ct0) 0) := ⟨false, rfl, fun _ => ⟨Nat.pos_of_ne_zero fun q => h34_4 (bsA_y q), fun j k hj => absurd hj (Nat.not_lt_zero j)⟩⟩)
       refine A9 (fun (a : PB) => [.sl false n1 (B1.map bT), .unk, .unk, .unk, .unk, .unk, .unk, .view b 0 L.length, .unk, .sl true false ((pnO 4 (1 + v0) L).map tT), .unk, .unk, .unk, .view m 0 9, .int .i64 (plS 4 L L.length).last, .unk, .unk, .unk, .unk, .unk, .int .i64 (sq : Int), .bool a.f, .int .i64 (a.i : Int)]) (fun (a : PB) => a.g) (fun (a : PB) => a.m) (fun (a : PB) => PBI L b m (plS 4 L L.length) L.length a ∧ (a.f = false → nfd L ((plS 4 L L.length).B.getD sq Ct0) a.i)) (fun (a : PB) => L.length - a.i) ⟨0, f0, m3, g4⟩ ?_ ?_ ?_ ?_ ?_
       ·exact ⟨⟨Nat.zero_le _, gl3, gb3, bm3⟩, hn0⟩
       ·(repeat first | exact LE.nil _ | refine LE.unk _ _ ?_ | refine LE.eq _ _ _ rfl ?_ | refine LE.eq _ _ _ (congrArg V.bool hf0.symm) ?_)
       ·exact LessH.refl _
       ·exact Nat.le_refl _
       intro ⟨i2, f4, m4, g5⟩ hI ih
       obtain ⟨⟨il5, gl5, gb5, bm5⟩, hf4⟩ := hI
       dsimp only at il5 gl5 gb5 bm5 hf4 ⊢
       have ih4 := ih
       refine A7 (st := [8, 19, 25, 33, 37, 41]) ?_
       refine br ?_ ?_ <;> intro h36_3
       ·(refine mem (by exact Q1) ⟨rfl, sd (by exact ⟨by exact N4, by exact N4⟩) ?_⟩)
        (apply D2 (vs := [.int _ _, .int _ _, .int _ _, .int _ _, .str _, .str _, .str _]) j2; exact Q1; exact Q11; rfl; exact kb; rfl)
        refine C8 (s25 (L.getD i2 Msg0) (hpo i2 (by omega))) rfl rfl rfl ?_
        refine A9 (fun (a : PB) => [.sl false n1 (B1.map bT), .unk, .unk, .unk, .unk, .unk, .unk, .view b 0 L.length, .unk, .sl true false ((pnO 4 (1 + v0) L).map tT), .unk, .unk, .unk, .view m 0 9, .int .i64 (plS 4 L L.length).last, .unk, .unk, .unk, .unk, .unk, .int .i64 (sq : Int), .bool a.f, .int .i64 (i2 : Int), .sl true false ((vcO 4 (L.getD i2 Msg0)).map (Ct.T false)), .unk, .int .i64 (a.i : Int)]) (fun (a : PB) => a.g) (fun (a : PB) => a.m) (fun (a : PB) => PBI L b m (plS 4 L L.length) (vcO 4 (L.getD i2 Msg0)).length a ∧ (a.f = false → nfd L ((plS 4 L L.length).B.getD sq Ct0) i2 ∧ nfk (L.getD i2 Msg0) ((plS 4 L L.length).B.getD sq Ct0) a.i)) (fun (a : PB) => (vcO 4 (L.getD i2 Msg0)).length - a.i) ⟨0, f4, m4, g5⟩ ?_ ?_ ?_ ?_ ?_
        ·exact ⟨⟨Nat.zero_le _, gl5, gb5, bm5⟩, fun h => ⟨hf4 h, fun q hq => absurd hq (Nat.not_lt_zero q)⟩⟩
        ·(repeat first | exact LE.nil _ | refine LE.unk _ _ ?_ | refine LE.eq _ _ _ rfl ?_)
        ·exact LessH.refl _
        ·exact Nat.le_refl _
        intro ⟨k2, f5, m5, g6⟩ hI ih
        obtain ⟨⟨il6, gl6, gb6, bm6⟩, hf5⟩ := hI
        dsimp only at il6 gl6 gb6 bm6 hf5 ⊢
        have ih5 := ih
        have hvl := J5 4 (L.getD i2 Msg0)
        have hvr : ((vcO 4 (L.getD i2 Msg0)).map (Ct.T false)).length = (vcO 4 (L.getD i2 Msg0)).length := List.length_map ..
        cases f5
        ·skip
         obtain ⟨hnf, hnk⟩ := hf5 rfl
         have hc1 := (hPM sq hnf.1).1
         have hc2 : bsA (plS 4 L L.length) sq = ((plS 4 L L.length).B.getD sq Ct0).vw + 1 := bsA_n (by have := hnf.1; omega)
         have hc3 : (pnO 4 (1 + v0) L).getD (sq - 1) ⟨#[]⟩ = ((plS 4 L L.length).B.getD sq Ct0).bd := by rw [hpx9, if_neg (by have := hnf.1; omega)]
         refine A7 (st := [8, 19, 25, 33, 37, 41]) ?_
         refine br ?_ ?_ <;> intro h40_3
         ·have hgd := C1 4 (L.getD i2 Msg0) k2 (by omega)
          have hvw := T1 (n := 4) (m := L.getD i2 Msg0) k2 (by omega)
          have hp0 := hgd.1
          have hs0 : 1 ≤ (((vcO 4 (L.getD i2 Msg0)).getD k2 Ct0).ps.getD 0 Msg0).sq ∧ (((vcO 4 (L.getD i2 Msg0)).getD k2 Ct0).ps.getD 0 Msg0).sq ≤ 8 := hgd.2
          have hv0 : 0 ≤ (((vcO 4 (L.getD i2 Msg0)).getD k2 Ct0).ps.getD 0 Msg0).vw ∧ (((vcO 4 (L.getD i2 Msg0)).getD k2 Ct0).ps.getD 0 Msg0).vw ≤ 20 := hvw
          have hpx : (((vcO 4 (L.getD i2 Msg0)).getD k2 Ct0).ps.map Msg.T).length = ((vcO 4 (L.getD i2 Msg0)).getD k2 Ct0).ps.length := List.length_map ..
          (refine sd (by exact N4) (D7 (by first | rfl | assumption | exact Q9) rfl ?_))
          (refine sd (by exact N4) (D7 (by first | rfl | assumption | exact Q9) rfl ?_))
          (apply est (u := .agg [.int _ _, .int _ _, .int _ _, .int _ _, .str _, .str _, .str _]) j3; exact Q1; exact Q11; exact j4; exact kb; rfl)
          refine A4 ?_ (by exact Q1) (by exact Q11)
          refine br ?_ ?_ <;> intro h43_5
          ·refine A4 ?_ (by exact Q1) (by exact Q11)
           refine D6 ⟨by (first | omega), by (first | omega)⟩ ?_
           (refine mem (by exact Q1) ⟨rfl, sd (by exact ⟨by exact N4, by exact N4⟩) ?_⟩)
           refine A4 ?_ (by exact Q1) (by exact Q11)
           refine br ?_ ?_ <;> intro h43_14
           ·(refine sd (by exact N4) (D7 (by first | rfl | assumption | exact Q9) rfl ?_))
            refine D6 ⟨by (first | omega), by (first | omega)⟩ ?_
            (refine sd (by exact N4) (D7 (by first | rfl | assumption | exact Q9) rfl ?_))
            refine br ?_ ?_ <;> intro h43_27
            ·refine E1 fun G41 hG41 => ?_
             refine D6 ⟨by (first | omega), by (first | omega)⟩ ?_
             first
             | (
               refine C6 (ih5 ⟨k2 + 1, true, m5 + 1, G41⟩ ⟨⟨by dsimp only; omega, by dsimp only; rw [hG41]; exact Q1, by dsimp only; rw [hG41]; exact Q1, by dsimp only; omega⟩, fun h => by cases h⟩ (by dsimp only; omega)) ?_ (LessH.refl _) (Nat.le_refl _); (repeat first | exact LE.nil _ | refine LE.unk _ _ ?_ | refine LE.eq _ _ _ rfl ?_); done)
             | (
               refine C6 (ih5 ⟨k2 + 1, false, m5 + 1, G41⟩ ⟨⟨by dsimp only; omega, by dsimp only; rw [hG41]; exact Q1, by dsimp only; rw [hG41]; exact Q1, by dsimp only; omega⟩, fun _ => ⟨hnf, fun q hq => by
                   by_cases e : q = k2
                   · subst e
                     intro e
                     first
                     | exact h43_5 (by show ((vcO 4 (L.getD i2 Msg0)).getD q Ct0).sq = (sq : Int); rw [e]; exact hc1)
                     | exact h43_14 (by show ((vcO 4 (L.getD i2 Msg0)).getD q Ct0).vw + 1 = bsA (plS 4 L L.length) sq; rw [e, hc2])
                     | exact h43_27 (by rw [e, hc3])
                   · exact hnk q (by dsimp only at hq; omega)⟩⟩ (by dsimp only; omega)) ?_ (LessH.refl _) (Nat.le_refl _); (repeat first | exact LE.nil _ | refine LE.unk _ _ ?_ | refine LE.eq _ _ _ rfl ?_); done)
            ·refine E1 fun G41 hG41 => ?_
             refine D6 ⟨by (first | omega), by (first | omega)⟩ ?_
             first
             | (
               refine C6 (ih5 ⟨k2 + 1, true, m5 + 1, G41⟩ ⟨⟨by dsimp only; omega, by dsimp only; rw [hG41]; exact Q1, by dsimp only; rw [hG41]; exact Q1, by dsimp only; omega⟩, fun h => by cases h⟩ (by dsimp only; omega)) ?_ (LessH.refl _) (Nat.le_refl _); (repeat first | exact LE.nil _ | refine LE.unk _ _ ?_ | refine LE.eq _ _ _ rfl ?_); done)
             | (
               refine C6 (ih5 ⟨k2 + 1, false, m5 + 1, G41⟩ ⟨⟨by dsimp only; omega, by dsimp only; rw [hG41]; exact Q1, by dsimp only; rw [hG41]; exact Q1, by dsimp only; omega⟩, fun _ => ⟨hnf, fun q hq => by
                   by_cases e : q = k2
                   · subst e
                     intro e
                     first
                     | exact h43_5 (by show ((vcO 4 (L.getD i2 Msg0)).getD q Ct0).sq = (sq : Int); rw [e]; exact hc1)
                     | exact h43_14 (by show ((vcO 4 (L.getD i2 Msg0)).getD q Ct0).vw + 1 = bsA (plS 4 L L.length) sq; rw [e, hc2])
                     | exact h43_27 (by rw [e, hc3])
                   · exact hnk q (by dsimp only at hq; omega)⟩⟩ (by dsimp only; omega)) ?_ (LessH.refl _) (Nat.le_refl _); (repeat first | exact LE.nil _ | refine LE.unk _ _ ?_ | refine LE.eq _ _ _ rfl ?_); done)
           ·refine E1 fun G41 hG41 => ?_
            refine D6 ⟨by (first | omega), by (first | omega)⟩ ?_
            first
            | (
              refine C6 (ih5 ⟨k2 + 1, true, m5 + 1, G41⟩ ⟨⟨by dsimp only; omega, by dsimp only; rw [hG41]; exact Q1, by dsimp only; rw [hG41]; exact Q1, by dsimp only; omega⟩, fun h => by cases h⟩ (by dsimp only; omega)) ?_ (LessH.refl _) (Nat.le_refl _); (repeat first | exact LE.nil _ | refine LE.unk _ _ ?_ | refine LE.eq _ _ _ rfl ?_); done)
            | (
              refine C6 (ih5 ⟨k2 + 1, false, m5 + 1, G41⟩ ⟨⟨by dsimp only; omega, by dsimp only; rw [hG41]; exact Q1, by dsimp only; rw [hG41]; exact Q1, by dsimp only; omega⟩, fun _ => ⟨hnf, fun q hq => by
                  by_cases e : q = k2
                  · subst e
                    intro e
                    first
                    | exact h43_5 (by show ((vcO 4 (L.getD i2 Msg0)).getD q Ct0).sq = (sq : Int); rw [e]; exact hc1)
                    | exact h43_14 (by show ((vcO 4 (L.getD i2 Msg0)).getD q Ct0).vw + 1 = bsA (plS 4 L L.length) sq; rw [e, hc2])
                    | exact h43_27 (by rw [e, hc3])
                  · exact hnk q (by dsimp only at hq; omega)⟩⟩ (by dsimp only; omega)) ?_ (LessH.refl _) (Nat.le_refl _); (repeat first | exact LE.nil _ | refine LE.unk _ _ ?_ | refine LE.eq _ _ _ rfl ?_); done)
          ·refine E1 fun G41 hG41 => ?_
           refine D6 ⟨by (first | omega), by (first | omega)⟩ ?_
           first
           | (
             refine C6 (ih5 ⟨k2 + 1, true, m5 + 1, G41⟩ ⟨⟨by dsimp only; omega, by dsimp only; rw [hG41]; exact Q1, by dsimp only; rw [hG41]; exact Q1, by dsimp only; omega⟩, fun h => by cases h⟩ (by dsimp only; omega)) ?_ (LessH.refl _) (Nat.le_refl _); (repeat first | exact LE.nil _ | refine LE.unk _ _ ?_ | refine LE.eq _ _ _ rfl ?_); done)
           | (
             refine C6 (ih5 ⟨k2 + 1, false, m5 + 1, G41⟩ ⟨⟨by dsimp only; omega, by dsimp only; rw [hG41]; exact Q1, by dsimp only; rw [hG41]; exact Q1, by dsimp only; omega⟩, fun _ => ⟨hnf, fun q hq => by
                 by_cases e : q = k2
                 · subst e
                   intro e
                   first
                   | exact h43_5 (by show ((vcO 4 (L.getD i2 Msg0)).getD q Ct0).sq = (sq : Int); rw [e]; exact hc1)
                   | exact h43_14 (by show ((vcO 4 (L.getD i2 Msg0)).getD q Ct0).vw + 1 = bsA (plS 4 L L.length) sq; rw [e, hc2])
                   | exact h43_27 (by rw [e, hc3])
                 · exact hnk q (by dsimp only at hq; omega)⟩⟩ (by dsimp only; omega)) ?_ (LessH.refl _) (Nat.le_refl _); (repeat first | exact LE.nil _ | refine LE.unk _ _ ?_ | refine LE.eq _ _ _ rfl ?_); done)
         ·refine E1 fun G37 hG37 => ?_
          refine D6 ⟨by (first | omega), by (first | omega)⟩ ?_
          first
          | (refine C6 (ih4 ⟨i2 + 1, true, m5, G37⟩ ⟨⟨by dsimp only; omega, by dsimp only; rw [hG37]; exact gl6, by dsimp only; rw [hG37]; exact gb6, bm6⟩, fun h => by cases h⟩ (by dsimp only; omega)) ?_ (LessH.refl _) (Nat.le_refl _); (repeat first | exact LE.nil _ | refine LE.unk _ _ ?_ | refine LE.eq _ _ _ rfl ?_); done)
          | (refine C6 (ih4 ⟨i2 + 1, false, m5, G37⟩ ⟨⟨by dsimp only; omega, by dsimp only; rw [hG37]; exact gl6, by dsimp only; rw [hG37]; exact gb6, bm6⟩, fun _ => ⟨hnf.1, fun j q hj hq => by
              by_cases e : j = i2
              · subst e; exact hnk q (by omega)
              · exact hnf.2 j q (by dsimp only at hj; omega) hq⟩⟩ (by dsimp only; omega)) ?_ (LessH.refl _) (Nat.le_refl _); (repeat first | exact LE.nil _ | refine LE.unk _ _ ?_ | refine LE.eq _ _ _ rfl ?_); done)
        ·skip
         skip
         refine A7 (st := [8, 19, 25, 33, 37, 41]) ?_
         refine br ?_ ?_ <;> intro h40_3
         ·have hgd := C1 4 (L.getD i2 Msg0) k2 (by omega)
          have hvw := T1 (n := 4) (m := L.getD i2 Msg0) k2 (by omega)
          have hp0 := hgd.1
          have hs0 : 1 ≤ (((vcO 4 (L.getD i2 Msg0)).getD k2 Ct0).ps.getD 0 Msg0).sq ∧ (((vcO 4 (L.getD i2 Msg0)).getD k2 Ct0).ps.getD 0 Msg0).sq ≤ 8 := hgd.2
          have hv0 : 0 ≤ (((vcO 4 (L.getD i2 Msg0)).getD k2 Ct0).ps.getD 0 Msg0).vw ∧ (((vcO 4 (L.getD i2 Msg0)).getD k2 Ct0).ps.getD 0 Msg0).vw ≤ 20 := hvw
          have hpx : (((vcO 4 (L.getD i2 Msg0)).getD k2 Ct0).ps.map Msg.T).length = ((vcO 4 (L.getD i2 Msg0)).getD k2 Ct0).ps.length := List.length_map ..
          (refine sd (by exact N4) (D7 (by first | rfl | assumption | exact Q9) rfl ?_))
          (refine sd (by exact N4) (D7 (by first | rfl | assumption | exact Q9) rfl ?_))
          (apply est (u := .agg [.int _ _, .int _ _, .int _ _, .int _ _, .str _, .str _, .str _]) j3; exact Q1; exact Q11; exact j4; exact kb; rfl)
          refine E1 fun G41 hG41 => ?_
          refine D6 ⟨by (first | omega), by (first | omega)⟩ ?_
          refine C6 (ih5 ⟨k2 + 1, true, m5 + 1, G41⟩ ⟨⟨by dsimp only; omega, by dsimp only; rw [hG41]; exact Q1, by dsimp only; rw [hG41]; exact Q1, by dsimp only; omega⟩, fun h => by cases h⟩ (by dsimp only; omega)) ?_ (LessH.refl _) (Nat.le_refl _); (repeat first | exact LE.nil _ | refine LE.unk _ _ ?_ | refine LE.eq _ _ _ rfl ?_); done
         ·refine E1 fun G37 hG37 => ?_
          refine D6 ⟨by (first | omega), by (first | omega)⟩ ?_
          first
          | (refine C6 (ih4 ⟨i2 + 1, true, m5, G37⟩ ⟨⟨by dsimp only; omega, by dsimp only; rw [hG37]; exact gl6, by dsimp only; rw [hG37]; exact gb6, bm6⟩, fun h => by cases h⟩ (by dsimp only; omega)) ?_ (LessH.refl _) (Nat.le_refl _); (repeat first | exact LE.nil _ | refine LE.unk _ _ ?_ | refine LE.eq _ _ _ rfl ?_); done)
          | (refine C6 (ih4 ⟨i2 + 1, false, m5, G37⟩ ⟨⟨by dsimp only; omega, by dsimp only; rw [hG37]; exact gl6, by dsimp only; rw [hG37]; exact gb6, bm6⟩, fun _ => ⟨hnf.1, fun j q hj hq => by
              by_cases e : j = i2
              · subst e; exact hnk q (by omega)
              · exact hnf.2 j q (by dsimp only at hj; omega) hq⟩⟩ (by dsimp only; omega)) ?_ (LessH.refl _) (Nat.le_refl _); (repeat first | exact LE.nil _ | refine LE.unk _ _ ?_ | refine LE.eq _ _ _ rfl ?_); done)
       ·cases h44_0 : f4
        ·have hnf := hf4 h44_0
         obtain ⟨_, _, j, k, hj, hk, e⟩ := hPM sq hnf.1
         exact absurd e (hnf.2 j k (by omega) hk)
        ·refine E1 fun G33 hG33 => ?_
         refine D6 ⟨by (first | omega), by (first | omega)⟩ ?_
         exact C6 (ih3 ⟨sq + 1, f4, m4, G33⟩ ⟨⟨by dsimp only; omega, by dsimp only; omega⟩, by dsimp only; omega, by dsimp only; rw [hG33]; exact gl5, by dsimp only; rw [hG33]; exact gb5, bm5⟩ (by dsimp only; omega)) (by (repeat first | exact LE.nil _ | refine LE.unk _ _ ?_ | refine LE.eq _ _ _ rfl ?_); done) (LessH.refl _) (Nat.le_refl _)
     ·exact E4 rfl rfl
open Go Go.V
set_option linter.unusedVariables false
set_option linter.unusedSimpArgs false
set_option maxRecDepth 20000
theorem sh_u8 {n : Int} (h : HasSh (.int .u8 n) (.int .u8)) : 0 ≤ n ∧ n < 256 := by
 cases h with
 | int _ _ h => simp [Lit.wf, IntKind.min, IntKind.max, IntKind.bits, IntKind.signed] at h; omega
theorem sh_bytes {x : T} (h : HasSh x (.sl [.int .u8])) : ∃ L : List Int, bytes L ∧ x = .sl false (L.map bT) := by
 cases h with
 | sl es _ hl hs =>
  obtain ⟨L, rfl⟩ := rows_of (f := bT) es (fun e he => by
   obtain ⟨y, r, rfl, g, k⟩ := sh_cons (hs e he)
   obtain ⟨n, rfl⟩ := sh_int g
   obtain rfl := sh_nil k
   exact ⟨n, rfl⟩)
  refine ⟨L, fun b hb => ?_, rfl⟩
  obtain ⟨y, r, e, g, k⟩ := sh_cons (hs (bT b) (List.mem_map.2 ⟨b, hb, rfl⟩))
  cases e
  exact sh_u8 g
theorem law4c (B1 B2 : List Int) (hB1 : bytes B1) (hB2 : bytes B2) : Pure En 4 [.one (.sl false (B1.map bT)), .one (.sl false (B2.map bT))] [.one (.bool true)] := law4 false false B1 B2 hB1 hB2
open Go Go.ClosedOfChecked
set_option linter.unusedVariables false
set_option maxRecDepth 20000
set_option maxHeartbeats 4000000
theorem joined_intro {P : Program} {f : FuncId} {fn : Func} {s : ChangeSpec} {c : OpenClaim} (a1 : c.wf (OpenSpec.ofChange s) = true) (a2 : laidOutB P = true) (a3 : mapsRowed P = true) (a4 : fn.params.all (P.readableRec ·) = true) (a5 : namedTie P c.named s.vars = true) (a6 : (c.stops == []) = true) (a7 : (P.stops == []) = true) (a8 : (c.knobs == []) = true) (a9 : (P.stopKnobs == []) = true) (b1 : (c.inPlace == P.inPlace f) = true) (b2 : (c.unfollowed == P.unfollowed f) = true) (b3 : (c.recurses == P.recurses f) = true) (b4 : (c.named == P.varsNamed f) = true) (b5 : (c.maps == (fn.params.toList ++ s.plain.varTypes P).any (P.mapsRec ·)) = true) (b6 : (c.ifaces == (fn.params.toList ++ s.plain.varTypes P).any (P.ifacesRec ·)) = true) (b7 : (c.mapsOut == P.mapsAmong fn.resultTypes.toList) = true) (b8 : (c.loops == (fn.params.toList ++ s.plain.varTypes P).any (P.loopsFrom ·)) = true) (b9 : (c.wideKeys == (fn.params.toList ++ s.plain.varTypes P ++ fn.resultTypes.toList).any (P.wideKeysFrom ·)) = true) (c1 : s.vars.all (P.varReadable ·) = true) (c2 : fn.resultTypes.all (fun t => P.readableRec t && decide (t < P.types.size)) = true) (c3 : (c.ifacesOut == fn.resultTypes.toList.any (P.ifacesRec ·)) = true) (c4 : (c.loopsOut == fn.resultTypes.toList.any (P.loopsFrom ·)) = true) (c5 : (c.plainKeys == P.plainKeys) = true) (c6 : c.shortTexts.isNone = true) (c7 : P.stopsHeard = true) (c8 : P.mayEnter = true) (c9 : (c.lifted == P.liftsFinal) = true) (d1 : (P.make == some c.make) = true) (d2 : (c.kinds == (if c.domain.isEmpty then [] else fn.params.toList.map fun t => match P.underlying t with | some (.int k) => some k | _ => none)) = true) (d3 : (c.pinned == c.pinnedBy) = true) (d4 : (c.veiled == (fn.params.toList ++ s.plain.varTypes P ++ fn.resultTypes.toList).any (P.veiledRec ·)) = true) (d5 : c.veiledFits P fn.params.toList (fn.params.toList ++ s.plain.varTypes P ++ fn.resultTypes.toList) = true) : joinedFacts P f fn s c = true := by
 unfold joinedFacts
 simp only [a1, a2, a3, a4, a5, a6, a7, a8, a9, b1, b2, b3, b4, b5, b6, b7, b8, b9, c1, c2, c3, c4, c5, c6, c7, c8, c9, d1, d3, d4, d5, Bool.true_and, Bool.and_true]
 exact d2
theorem jn_ty : Tryz.checked.prog.types = Tryz.checked.src.types := by kernel_rfl
theorem jn_rest : (Tryz.checked.prog.globals.all (fun g => decide (g.type < Tryz.checked.prog.types.size)) && Tryz.checked.prog.funcs.all (fun f => f.params.all fun t => decide (t < Tryz.checked.prog.types.size))) = true := by kernel_rfl
theorem jn_laid : laidOutB Tryz.checked.prog = true := laidOutB_of (allSpec_of Tryz.checked.wellFormed jn_ty) jn_rest
theorem jn_maps : mapsRowed Tryz.checked.prog = true := mapsRowed_of (allSpec_of Tryz.checked.wellFormed jn_ty)
theorem jn_keys : (false == Tryz.checked.prog.plainKeys) = true := by kernel_rfl
theorem jn_stops : (Tryz.prog.stops == []) = true := by kernel_rfl
theorem jn_knobs : (Tryz.prog.stopKnobs == []) = true := by kernel_rfl
theorem jn_heard : Tryz.prog.stopsHeard = true := by kernel_rfl
theorem jn_enter : Tryz.prog.mayEnter = true := by kernel_rfl
end Go.Proofs.YteifdelnahccjaaGreatDoor
namespace Go.Proofs.YteifdelnahccjaaGreatDoor.fnPlan
open Go
set_option linter.unusedVariables false
set_option maxRecDepth 20000
set_option maxHeartbeats 4000000
theorem k1 : (Rows.fnPlanRow.inPlace == Tryz.pinned.checked.prog.inPlace 4) = true := by kernel_rfl
theorem k2 : (Rows.fnPlanRow.unfollowed == Tryz.pinned.checked.prog.unfollowed 4) = true := by kernel_rfl
theorem k3 : (Rows.fnPlanRow.recurses == Tryz.pinned.checked.prog.recurses 4) = true := by kernel_rfl
theorem k4 : (Rows.fnPlanRow.named == Tryz.pinned.checked.prog.varsNamed 4) = true := by kernel_rfl
theorem k5 : (Rows.fnPlanRow.lifted == Tryz.pinned.checked.prog.liftsFinal) = true := by kernel_rfl
theorem k6 : (Tryz.pinned.checked.prog.make == some Rows.fnPlanRow.make) = true := by kernel_rfl
theorem joined : joinedFacts Tryz.pinned.checked.prog 4 Tryz.f4 (OpenSpec.ofChange Rows.fnPlanSpec).bare Rows.fnPlanRow = true :=
 joined_intro (by kernel_rfl) jn_laid jn_maps (by kernel_rfl) (by kernel_rfl) (by kernel_rfl) jn_stops (by kernel_rfl) jn_knobs k1 k2 k3 k4 (by kernel_rfl) (by kernel_rfl) (by kernel_rfl) (by kernel_rfl) (by kernel_rfl)
  (by kernel_rfl) (by kernel_rfl) (by kernel_rfl) (by kernel_rfl) jn_keys (by kernel_rfl) jn_heard jn_enter k5 k6 (by kernel_rfl) (by kernel_rfl) (by kernel_rfl) (by kernel_rfl)
theorem w1 : Rows.fnPlanRow.wfByText (OpenSpec.ofChange Rows.fnPlanSpec) = true := by kernel_rfl
theorem w3 : false = Rows.fnPlanRow.goesBy Tryz.pinned.checked.prog := by kernel_rfl
theorem w4 : false = Tryz.pinned.checked.prog.looks [] := by kernel_rfl
theorem w5 : Tryz.prog.funcNamed "loop.example/g00292/laws.FnPlan" = some 4 := by kernel_rfl
theorem st34 : Tryz.prog.wantsStandIn 34 = false := by kernel_rfl
theorem plain (f : FuncId) (fn : Func) (hf : Tryz.pinned.checked.prog.funcNamed "loop.example/g00292/laws.FnPlan" = some f) (hfn : Tryz.pinned.checked.prog.funcs[f]? = some fn) :
  false = Tryz.pinned.checked.prog.looks [] ∧ ∀ (j : Nat) t, fn.params[j]? = some t → Tryz.pinned.checked.prog.wantsStandIn t = false := by
 obtain rfl : f = 4 := Option.some.inj (w5.symm.trans hf) |>.symm
 obtain rfl : fn = Tryz.f4 := (Option.some.inj (Tryz.func4.symm.trans hfn)).symm
 refine ⟨w4, fun j t ht => ?_⟩
 rw [Tryz.params4] at ht
 have hm := Array.mem_of_getElem? ht
 simp only [List.mem_toArray, List.mem_cons, List.not_mem_nil, or_false] at hm
 rcases hm with rfl | rfl
 ·exact st34
 ·exact st34
end Go.Proofs.YteifdelnahccjaaGreatDoor.fnPlan
