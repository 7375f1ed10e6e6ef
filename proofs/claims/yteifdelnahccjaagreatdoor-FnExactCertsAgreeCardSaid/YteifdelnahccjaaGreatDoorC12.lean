import Derived.Test.YteifdelnahccjaaGreatDoorRows
import Derived.ProofKit
import Derived.ClosedOfChecked
import Derived.Deep.DeepHandedRow
import Derived.Test.YteifdelnahccjaaGreatDoorCards
import Derived.Test.YteifdelnahccjaaGreatDoorC11
namespace Go.Proofs.YteifdelnahccjaaGreatDoor
open Go.V
set_option linter.unusedVariables false
set_option linter.unusedSimpArgs false
set_option maxRecDepth 20000
set_option maxHeartbeats 4000000
def cag (G : Grp) : Prop := ¬ cfl (prc (ly G) (ly G).length)
noncomputable instance dcCag (G : Grp) : Decidable (G.OK ∧ cag G) := Classical.propDecidable _
structure CA where
 i : Nat
 j : Nat
 M : List Mn
 m : Nat
 g : Heap
structure CaI (G : Grp) (b : Nat) (K : List Ct) (a : CA) : Prop where
 blk : a.g b = some ⟨(ly G).map repV, 8, 54⟩
 mp : a.g 1 = some ⟨a.M.map Mn.row, 0, 140⟩
 mi : MnI a.M K
 nm : b < a.m
theorem ce_rg {G : Grp} (h : G.OK) {i j : Nat} (hi : i < (ly G).length) (hj : j < ((ly G).getD i Rep0).cs.length) (hE : ¬ (((ly G).getD i Rep0).cs.getD j Ct0).E) :
  0 < (((ly G).getD i Rep0).cs.getD j Ct0).ps.length ∧ (((ly G).getD i Rep0).cs.getD j Ct0).mn.rg ∧ (((ly G).getD i Rep0).cs.getD j Ct0).sq = (j : Int) + 1 := by
 have hm : (ly G).getD i Rep0 ∈ ly G := by rw [List.getD_eq_getElem?_getD, List.getElem?_eq_getElem hi]; exact List.getElem_mem _
 obtain ⟨k, h1, h2, e⟩ := (N3 G _ _).1 hm
 rw [e] at hj hE ⊢
 obtain ⟨_, e2, e3⟩ := h.2.1 k h1
 obtain ⟨⟨hn, _, hv, _, hc8, _, _⟩, _, hc, _⟩ := e3
 obtain ⟨c1, c2, c3⟩ := hc j hj hE
 have hp := hce ⟨hn, c1⟩
 have hs := (c1.2.2.2 0 hp).2.1.1
 have hrg : (0 ≤ ((G.rs.getD k Rep0).cs.getD j Ct0).vw ∧ ((G.rs.getD k Rep0).cs.getD j Ct0).vw ≤ 20) ∧ (1 ≤ ((G.rs.getD k Rep0).cs.getD j Ct0).sq ∧ ((G.rs.getD k Rep0).cs.getD j Ct0).sq ≤ 8) := ⟨⟨hs.2.1.1, by omega⟩, by omega⟩
 exact ⟨hp, hrg, c2⟩
theorem ly_cs {G : Grp} (h : G.OK) {i : Nat} (hi : i < (ly G).length) : ((ly G).getD i Rep0).cs.length = 8 := by
 have hm : (ly G).getD i Rep0 ∈ ly G := by rw [List.getD_eq_getElem?_getD, List.getElem?_eq_getElem hi]; exact List.getElem_mem _
 obtain ⟨k, h1, h2, e⟩ := (N3 G _ _).1 hm
 rw [e]; exact (h.2.1 k h1).2.2.1.2.2.2.2.1
theorem setSame {α : Type} {l : List α} {i : Nat} {x : α} (h : l[i]? = some x) : l.set i x = l := by
 obtain ⟨h1, h2⟩ := List.getElem?_eq_some_iff.1 h
 rw [← h2]; exact List.set_getElem_self h1
theorem s37 (G : Grp) (hb : TBs 1048576 G.T) : Pure En 37 [.agg G.T] [.one (.bool (decide (G.OK ∧ cag G))), .one (.int .i64 (if G.OK then 0 else 1))] := by
 obtain ⟨hF, hR0, hR, hW, hS9⟩ := Grp.sm hb
 have hly : (ly G).length ≤ G.rs.length := lyL_len G G.rs.length
 refine Pure.of_ev (st := [16, 17]) Tryz.func37 rfl kb ?_
 (apply C5 (vs := [.int _ _, _, _, _, _]) j2; exact Q6; exact Q20; rfl; exact kb; rfl)
 refine B2 (s34 G hb) rfl j2 ?_ ?_ <;> intro h1_1
 ·(refine emkm rfl ?_)
  refine eopX (o104 G hF hR0 (ly_ne h1_1) (id := 0) ?_ ?_) rfl j2 ?_
  ·(first | omega | assumption | exact Q6)
  ·(first | omega | assumption | exact Q6)
  rintro ⟨b, m2⟩ h4_0
  try dsimp only at h4_0
  refine wlG fun g0 hg0 => ?_
  refine B1 (fun (a : CA) => [.unk, .ptr 0 0 0, .unk, .unk, .map 1, .unk, .unk, .unk, .unk, .unk, .unk, .unk, .unk, .unk, .unk, .unk, .view b 0 (ly G).length, .int .i64 ((ly G).length : Int), .int .i64 a.i]) (fun (a : CA) => a.g) (fun (a : CA) => a.m) (fun (a : CA) => (a.i ≤ (ly G).length) ∧ CaI G b (prc (ly G) a.i) a) (fun (a : CA) => (ly G).length - a.i) ⟨0, 0, [], m2, g0⟩ ?_ ?_ ?_ ?_ ?_
  ·exact ⟨Nat.zero_le _, ⟨by dsimp only; rw [hg0]; exact Q6, by dsimp only; rw [hg0]; exact Q6, MnI.nil, by dsimp only; omega⟩⟩
  ·(repeat first | exact LE.nil _ | refine LE.unk _ _ ?_ | refine LE.eq _ _ _ rfl ?_)
  ·exact LessH.refl _
  ·exact Nat.le_refl _
  intro ⟨i, j0, M, m, g⟩ hI ih
  obtain ⟨u0, hI⟩ := hI
  have hg0 := hI.blk
  have hg1 := hI.mp
  have hmi := hI.mi
  have hnm := hI.nm
  have ihO := ih
  dsimp only at u0 hg0 hg1 hmi hnm ⊢
  have hl5 : (((ly G).getD i Rep0).cs.map (Ct.T false)).length = ((ly G).getD i Rep0).cs.length := List.length_map ..
  refine A4 (st := [16, 17]) ?_
  refine br ?_ ?_ <;> intro h5_0
  ·(refine G4 (by exact Q6) ⟨rfl, C0 ?_⟩)
   (apply C5 (vs := [.int _ _, .int _ _, .int _ _, .bool _, _, _, _, _]) j2; exact Q6; exact Q20; rfl; exact kb; rfl)
   (apply est (u := .agg [.int _ _, .int _ _, .int _ _, .bool _, _, _, _, _]) j3; exact Q6; exact Q20; exact j4; exact kb; rfl)
   have hc8 := ly_cs h1_1 (i := i) (by omega)
   refine A2 ?_ (by exact Q6) (by exact Q20)
   refine wlG fun g1 hg9 => ?_
   refine B1 (fun (a : CA) => [.unk, .ptr 0 0 0, .unk, .unk, .map 1, .unk, .unk, .unk, .unk, .unk, .unk, .unk, .unk, .unk, .unk, .unk, .view b 0 (ly G).length, .int .i64 ((ly G).length : Int), .int .i64 i, .unk, .unk, .unk, .unk, .sl false false (((ly G).getD i Rep0).cs.map (Ct.T false)), .int .i64 ((((ly G).getD i Rep0).cs.map (Ct.T false)).length : Int), .int .i64 a.j]) (fun (a : CA) => a.g) (fun (a : CA) => a.m) (fun (a : CA) => a.j ≤ ((ly G).getD i Rep0).cs.length ∧ CaI G b (prc (ly G) i ++ nec ((ly G).getD i Rep0).cs a.j) a) (fun (a : CA) => ((ly G).getD i Rep0).cs.length - a.j) ⟨i, 0, M, m + 1, g1⟩ ?_ ?_ ?_ ?_ ?_
   ·exact ⟨Nat.zero_le _, ⟨by dsimp only; rw [hg9]; (simp (disch := (first | omega | assumption)) only [↓appC, ↓updN, ↓updS, ↓app0]); exact hg0, by dsimp only; rw [hg9]; (simp (disch := (first | omega | assumption)) only [↓appC, ↓updN, ↓updS, ↓app0]); exact hg1, by dsimp only; rw [show nec ((ly G).getD i Rep0).cs 0 = [] from rfl, List.append_nil]; exact hmi, by dsimp only; omega⟩⟩
   ·(repeat first | exact LE.nil _ | refine LE.unk _ _ ?_ | refine LE.eq _ _ _ rfl ?_)
   ·exact LessH.refl _
   ·exact Nat.le_refl _
   intro ⟨i1, j, M, m, g⟩ hI ih
   obtain ⟨v0, hI⟩ := hI
   have hg0 := hI.blk
   have hg1 := hI.mp
   have hmi := hI.mi
   have hnm := hI.nm
   dsimp only at v0 hg0 hg1 hmi hnm ⊢
   rcases Classical.em (∃ e ∈ M, e.v = (((ly G).getD i Rep0).cs.getD j Ct0).vw ∧ e.s = (((ly G).getD i Rep0).cs.getD j Ct0).sq) with hq | hq
   ·skip
    obtain ⟨e, hin', hk1, hk2⟩ := hq
    obtain ⟨ix, hix, hxe⟩ := List.getElem_of_mem hin'
    have hrow : (M.map Mn.row)[ix]? = some [.agg [.int .i64 (((ly G).getD i Rep0).cs.getD j Ct0).vw, .int .i64 (((ly G).getD i Rep0).cs.getD j Ct0).sq], .str e.b] := by
     rw [List.getElem?_map, List.getElem?_eq_getElem hix, hxe]; show some e.row = _; unfold Mn.row Mn.k; rw [hk1, hk2]
    have hun : ∀ (q : Nat) (x : V), (M.map Mn.row)[q]? = some [.agg [.int .i64 (((ly G).getD i Rep0).cs.getD j Ct0).vw, .int .i64 (((ly G).getD i Rep0).cs.getD j Ct0).sq], x] → q = ix := by
     intro q x hx
     rw [List.getElem?_map] at hx
     cases hq2 : M[q]? with
     | none => rw [hq2] at hx; cases hx
     | some d =>
      rw [hq2] at hx
      have hx := Option.some.inj hx
      simp only [Mn.row, List.cons.injEq] at hx
      obtain ⟨k1, k2⟩ := Mn.inj (e := d) (d := e) (by rw [hx.1]; unfold Mn.k; rw [hk1, hk2])
      have hd := hmi.un d (List.mem_of_getElem? hq2) e hin' k1 k2
      subst hd
      exact (List.getElem?_inj (List.getElem?_eq_some_iff.1 hq2).1 hmi.nd).1 (hq2.trans (by rw [List.getElem?_eq_getElem hix, hxe]))
    refine A4 (st := [16, 17]) ?_
    refine br ?_ ?_ <;> intro h8_0
    ·(refine C0 (C4 (by first | rfl | assumption | (exact A7 (Ct.T false) Ct0 (k := j) (by omega))) rfl ?_))
     (apply est (u := .agg [.str _, _]) j3; exact Q6; exact Q20; exact j4; exact kb; rfl)
     (apply C5 (vs := [.str _, _]) j2; exact Q6; exact Q20; rfl; exact kb; rfl)
     refine B2 (s82 (((ly G).getD i Rep0).cs.getD j Ct0) false) rfl j2 ?_ ?_ <;> intro h10_1
     ·refine K1 fun GG hGG => ?_
      refine B9 ?_
      first | (exact D1 (ih ⟨i, j + 1, M, m + 1, GG⟩ ⟨by dsimp only; omega, ⟨by dsimp only; rw [hGG]; (simp (disch := (first | omega | assumption)) only [↓appC, ↓updN, ↓updS, ↓app0]); exact hg0, by dsimp only; rw [hGG]; (simp (disch := (first | omega | assumption)) only [↓appC, ↓updN, ↓updS, ↓app0]); exact hg1, by dsimp only; rw [nec_y h10_1]; exact hmi, by dsimp only; omega⟩⟩ (by dsimp only; omega)) (by (repeat first | exact LE.nil _ | refine LE.unk _ _ ?_ | refine LE.eq _ _ _ rfl ?_)) (LessH.refl _) (Nat.le_refl _)) | (have hbd : e.b = (((ly G).getD i Rep0).cs.getD j Ct0).bd := Classical.not_not.1 h13_5; have hin : (((ly G).getD i Rep0).cs.getD j Ct0).mn ∈ M := (by rw [show (((ly G).getD i Rep0).cs.getD j Ct0).mn = e by (unfold Ct.mn; rw [← hk1, ← hk2, ← hbd])]; exact hin'); have hsame : (M.map Mn.row).set ix [.agg [.int .i64 (((ly G).getD i Rep0).cs.getD j Ct0).vw, .int .i64 (((ly G).getD i Rep0).cs.getD j Ct0).sq], .str (((ly G).getD i Rep0).cs.getD j Ct0).bd] = M.map Mn.row := (by rw [← hbd]; exact setSame hrow); exact D1 (ih ⟨i, j + 1, M, m + 1 + 1, GG⟩ ⟨by dsimp only; omega, ⟨by dsimp only; rw [hGG]; (simp (disch := (first | omega | assumption)) only [↓appC, ↓updN, ↓updS, ↓app0]); exact hg0, by dsimp only; rw [hGG]; ((simp (disch := (first | omega | assumption)) only [↓appC, ↓updN, ↓updS, ↓app0]); exact congrArg (fun z => some (Blk.mk z 0 140)) hsame), by dsimp only; rw [nec_n h10_1, ← List.append_assoc]; exact hmi.hit hin, by dsimp only; omega⟩⟩ (by dsimp only; omega)) (by (repeat first | exact LE.nil _ | refine LE.unk _ _ ?_ | refine LE.eq _ _ _ rfl ?_)) (LessH.refl _) (Nat.le_refl _))
     ·have hr := ce_rg h1_1 (i := i) (j := j) (by omega) (by omega) h10_1
      have hr1 := hr.2.1.1
      have hr2 := hr.2.1.2
      dsimp only [Ct.mn] at hr1 hr2
      (apply C5 (vs := [.str _, _]) j2; exact Q6; exact Q20; rfl; exact kb; rfl)
      refine C2 (s85 (((ly G).getD i Rep0).cs.getD j Ct0) false hr.1) rfl rfl rfl ?_
      (apply C5 (vs := [.str _, _]) j2; exact Q6; exact Q20; rfl; exact kb; rfl)
      refine C2 (s84 (((ly G).getD i Rep0).cs.getD j Ct0) false hr.1) rfl rfl rfl ?_
      (apply est (u := .agg [.int _ _, .int _ _]) j3; exact Q6; exact Q20; exact j4; exact kb; rfl)
      refine clr 7 [3, 3, 0, 0, 1, 0, 1] [(0, 5), (2, 5)] j2 (by decide +kernel) ?_ ?_
      ·first | (simp [ClearL, ids]; done) | (simp [ClearL, ids]; omega) | (simp [ClearL, ids, srcIds, Env.eval, put, upd, retV, A.toV, T.toV]; try omega)
      (apply C5 (vs := [.int _ _, .int _ _]) j2; exact Q6; exact Q20; rfl; exact kb; rfl)
      (apply el2h ix j3 keyL2; exact Q6; exact hmi.keys; rfl; exact key2 _ _ (by omega) (by omega); exact hrow; exact hun)
      refine brBT ?_
      refine A2 ?_ (by exact Q6) (by exact Q20)
      refine br ?_ ?_ <;> intro h13_5
      ·have hcf : cfl (prc (ly G) (ly G).length) := cfl_mono (hmi.yes hin' hk1 hk2 h13_5) (fun d hd => by
        rcases List.mem_append.1 hd with q | q
        ·rcases List.mem_append.1 q with r | r
         ·obtain ⟨k, z1, z2⟩ := (L3 i d).1 r; exact (L3 _ d).2 ⟨k, by omega, z2⟩
         ·obtain ⟨k, z1, z2, z3⟩ := (J2 j d).1 r; exact (L3 _ d).2 ⟨i, by omega, (J2 _ d).2 ⟨k, by omega, z2, z3⟩⟩
        ·rw [List.mem_singleton.1 q]; exact (L3 _ _).2 ⟨i, by omega, (J2 _ _).2 ⟨j, by omega, h10_1, rfl⟩⟩)
       rw [decide_eq_false (fun q : G.OK ∧ cag G => q.2 hcf), if_pos h1_1]; exact B5 rfl rfl
      ·(apply C5 (vs := [.int _ _, .int _ _]) j2; exact Q6; exact Q20; rfl; exact kb; rfl)
       refine A2 ?_ (by exact Q6) (by exact Q20)
       (apply emuh ix (v := .str e.b) j3 keyL2; exact Q6; exact hmi.keys; rfl; exact key2 _ _ (by omega) (by omega); rfl; exact hrow; exact hun)
       refine K1 fun GG hGG => ?_
       refine B9 ?_
       first | (exact D1 (ih ⟨i, j + 1, M, m + 1, GG⟩ ⟨by dsimp only; omega, ⟨by dsimp only; rw [hGG]; (simp (disch := (first | omega | assumption)) only [↓appC, ↓updN, ↓updS, ↓app0]); exact hg0, by dsimp only; rw [hGG]; (simp (disch := (first | omega | assumption)) only [↓appC, ↓updN, ↓updS, ↓app0]); exact hg1, by dsimp only; rw [nec_y h10_1]; exact hmi, by dsimp only; omega⟩⟩ (by dsimp only; omega)) (by (repeat first | exact LE.nil _ | refine LE.unk _ _ ?_ | refine LE.eq _ _ _ rfl ?_)) (LessH.refl _) (Nat.le_refl _)) | (have hbd : e.b = (((ly G).getD i Rep0).cs.getD j Ct0).bd := Classical.not_not.1 h13_5; have hin : (((ly G).getD i Rep0).cs.getD j Ct0).mn ∈ M := (by rw [show (((ly G).getD i Rep0).cs.getD j Ct0).mn = e by (unfold Ct.mn; rw [← hk1, ← hk2, ← hbd])]; exact hin'); have hsame : (M.map Mn.row).set ix [.agg [.int .i64 (((ly G).getD i Rep0).cs.getD j Ct0).vw, .int .i64 (((ly G).getD i Rep0).cs.getD j Ct0).sq], .str (((ly G).getD i Rep0).cs.getD j Ct0).bd] = M.map Mn.row := (by rw [← hbd]; exact setSame hrow); exact D1 (ih ⟨i, j + 1, M, m + 1 + 1, GG⟩ ⟨by dsimp only; omega, ⟨by dsimp only; rw [hGG]; (simp (disch := (first | omega | assumption)) only [↓appC, ↓updN, ↓updS, ↓app0]); exact hg0, by dsimp only; rw [hGG]; ((simp (disch := (first | omega | assumption)) only [↓appC, ↓updN, ↓updS, ↓app0]); exact congrArg (fun z => some (Blk.mk z 0 140)) hsame), by dsimp only; rw [nec_n h10_1, ← List.append_assoc]; exact hmi.hit hin, by dsimp only; omega⟩⟩ (by dsimp only; omega)) (by (repeat first | exact LE.nil _ | refine LE.unk _ _ ?_ | refine LE.eq _ _ _ rfl ?_)) (LessH.refl _) (Nat.le_refl _))
    ·refine K1 fun GG hGG => ?_
     refine B9 ?_
     exact D1 (ihO ⟨i + 1, 0, M, m, GG⟩ ⟨by dsimp only; omega, ⟨by dsimp only; rw [hGG]; exact hg0, by dsimp only; rw [hGG]; exact hg1, by dsimp only; show MnI M (prc (ly G) i ++ nec ((ly G).getD i Rep0).cs ((ly G).getD i Rep0).cs.length); rw [show ((ly G).getD i Rep0).cs.length = j by omega]; exact hmi, by dsimp only; omega⟩⟩ (by dsimp only; omega)) (by (repeat first | exact LE.nil _ | refine LE.unk _ _ ?_ | refine LE.eq _ _ _ rfl ?_)) (LessH.refl _) (Nat.le_refl _)
   ·skip
    have hno : ∀ (q : Nat) (k' x : V), (M.map Mn.row)[q]? = some [k', x] → k' ≠ .agg [.int .i64 (((ly G).getD i Rep0).cs.getD j Ct0).vw, .int .i64 (((ly G).getD i Rep0).cs.getD j Ct0).sq] := by
     intro q k' x hx e
     rw [List.getElem?_map] at hx
     cases hq2 : M[q]? with
     | none => rw [hq2] at hx; cases hx
     | some d =>
      rw [hq2] at hx
      have hx := Option.some.inj hx
      simp only [Mn.row, List.cons.injEq] at hx
      rw [e] at hx
      obtain ⟨k1, k2⟩ := Mn.inj (e := d) (d := (((ly G).getD i Rep0).cs.getD j Ct0).mn) hx.1
      exact hq ⟨d, List.mem_of_getElem? hq2, k1, k2⟩
    refine A4 (st := [16, 17]) ?_
    refine br ?_ ?_ <;> intro h8_0
    ·(refine C0 (C4 (by first | rfl | assumption | (exact A7 (Ct.T false) Ct0 (k := j) (by omega))) rfl ?_))
     (apply est (u := .agg [.str _, _]) j3; exact Q6; exact Q20; exact j4; exact kb; rfl)
     (apply C5 (vs := [.str _, _]) j2; exact Q6; exact Q20; rfl; exact kb; rfl)
     refine B2 (s82 (((ly G).getD i Rep0).cs.getD j Ct0) false) rfl j2 ?_ ?_ <;> intro h10_1
     ·refine K1 fun GG hGG => ?_
      refine B9 ?_
      first | (exact D1 (ih ⟨i, j + 1, M, m + 1, GG⟩ ⟨by dsimp only; omega, ⟨by dsimp only; rw [hGG]; (simp (disch := (first | omega | assumption)) only [↓appC, ↓updN, ↓updS, ↓app0]); exact hg0, by dsimp only; rw [hGG]; (simp (disch := (first | omega | assumption)) only [↓appC, ↓updN, ↓updS, ↓app0]); exact hg1, by dsimp only; rw [nec_y h10_1]; exact hmi, by dsimp only; omega⟩⟩ (by dsimp only; omega)) (by (repeat first | exact LE.nil _ | refine LE.unk _ _ ?_ | refine LE.eq _ _ _ rfl ?_)) (LessH.refl _) (Nat.le_refl _)) | (exact D1 (ih ⟨i, j + 1, (M ++ [(((ly G).getD i Rep0).cs.getD j Ct0).mn]), m + 1 + 1, GG⟩ ⟨by dsimp only; omega, ⟨by dsimp only; rw [hGG]; (simp (disch := (first | omega | assumption)) only [↓appC, ↓updN, ↓updS, ↓app0]); exact hg0, by dsimp only; rw [hGG]; ((simp (disch := (first | omega | assumption)) only [↓appC, ↓updN, ↓updS, ↓app0]); exact congrArg (fun z => some (Blk.mk z 0 140)) (by rw [List.map_append]; rfl)), by dsimp only; rw [nec_n h10_1, ← List.append_assoc]; exact hmi.miss hr.2.1 (fun e he q => hq ⟨e, he, q⟩), by dsimp only; omega⟩⟩ (by dsimp only; omega)) (by (repeat first | exact LE.nil _ | refine LE.unk _ _ ?_ | refine LE.eq _ _ _ rfl ?_)) (LessH.refl _) (Nat.le_refl _))
     ·have hr := ce_rg h1_1 (i := i) (j := j) (by omega) (by omega) h10_1
      have hr1 := hr.2.1.1
      have hr2 := hr.2.1.2
      dsimp only [Ct.mn] at hr1 hr2
      (apply C5 (vs := [.str _, _]) j2; exact Q6; exact Q20; rfl; exact kb; rfl)
      refine C2 (s85 (((ly G).getD i Rep0).cs.getD j Ct0) false hr.1) rfl rfl rfl ?_
      (apply C5 (vs := [.str _, _]) j2; exact Q6; exact Q20; rfl; exact kb; rfl)
      refine C2 (s84 (((ly G).getD i Rep0).cs.getD j Ct0) false hr.1) rfl rfl rfl ?_
      (apply est (u := .agg [.int _ _, .int _ _]) j3; exact Q6; exact Q20; exact j4; exact kb; rfl)
      refine clr 7 [3, 3, 0, 0, 1, 0, 1] [(0, 5), (2, 5)] j2 (by decide +kernel) ?_ ?_
      ·first | (simp [ClearL, ids]; done) | (simp [ClearL, ids]; omega) | (simp [ClearL, ids, srcIds, Env.eval, put, upd, retV, A.toV, T.toV]; try omega)
      (apply C5 (vs := [.int _ _, .int _ _]) j2; exact Q6; exact Q20; rfl; exact kb; rfl)
      (apply el2m (zv := .string ⟨#[]⟩) j3 keyL2; exact Q6; exact hmi.keys; rfl; exact key2 _ _ (by omega) (by omega); exact hno; exact j2)
      refine brBF ?_
      (apply C5 (vs := [.int _ _, .int _ _]) j2; exact Q6; exact Q20; rfl; exact kb; rfl)
      refine A2 ?_ (by exact Q6) (by exact Q20)
      (apply emum j3 keyL2; exact Q6; exact hmi.keys; rfl; exact key2 _ _ (by omega) (by omega); rfl; exact hno)
      refine K1 fun GG hGG => ?_
      refine B9 ?_
      first | (exact D1 (ih ⟨i, j + 1, M, m + 1, GG⟩ ⟨by dsimp only; omega, ⟨by dsimp only; rw [hGG]; (simp (disch := (first | omega | assumption)) only [↓appC, ↓updN, ↓updS, ↓app0]); exact hg0, by dsimp only; rw [hGG]; (simp (disch := (first | omega | assumption)) only [↓appC, ↓updN, ↓updS, ↓app0]); exact hg1, by dsimp only; rw [nec_y h10_1]; exact hmi, by dsimp only; omega⟩⟩ (by dsimp only; omega)) (by (repeat first | exact LE.nil _ | refine LE.unk _ _ ?_ | refine LE.eq _ _ _ rfl ?_)) (LessH.refl _) (Nat.le_refl _)) | (exact D1 (ih ⟨i, j + 1, (M ++ [(((ly G).getD i Rep0).cs.getD j Ct0).mn]), m + 1 + 1, GG⟩ ⟨by dsimp only; omega, ⟨by dsimp only; rw [hGG]; (simp (disch := (first | omega | assumption)) only [↓appC, ↓updN, ↓updS, ↓app0]); exact hg0, by dsimp only; rw [hGG]; ((simp (disch := (first | omega | assumption)) only [↓appC, ↓updN, ↓updS, ↓app0]); exact congrArg (fun z => some (Blk.mk z 0 140)) (by rw [List.map_append]; rfl)), by dsimp only; rw [nec_n h10_1, ← List.append_assoc]; exact hmi.miss hr.2.1 (fun e he q => hq ⟨e, he, q⟩), by dsimp only; omega⟩⟩ (by dsimp only; omega)) (by (repeat first | exact LE.nil _ | refine LE.unk _ _ ?_ | refine LE.eq _ _ _ rfl ?_)) (LessH.refl _) (Nat.le_refl _))
    ·refine K1 fun GG hGG => ?_
     refine B9 ?_
     exact D1 (ihO ⟨i + 1, 0, M, m, GG⟩ ⟨by dsimp only; omega, ⟨by dsimp only; rw [hGG]; exact hg0, by dsimp only; rw [hGG]; exact hg1, by dsimp only; show MnI M (prc (ly G) i ++ nec ((ly G).getD i Rep0).cs ((ly G).getD i Rep0).cs.length); rw [show ((ly G).getD i Rep0).cs.length = j by omega]; exact hmi, by dsimp only; omega⟩⟩ (by dsimp only; omega)) (by (repeat first | exact LE.nil _ | refine LE.unk _ _ ?_ | refine LE.eq _ _ _ rfl ?_)) (LessH.refl _) (Nat.le_refl _)
  ·have hi : i = (ly G).length := by omega
   rw [hi] at hmi
   rw [decide_eq_true (show G.OK ∧ cag G from ⟨h1_1, hmi.no⟩), if_pos h1_1]; exact B5 rfl rfl
 ·rw [decide_eq_false (fun q : G.OK ∧ cag G => h1_1 q.1), if_neg h1_1]; exact B5 rfl rfl
open Go.V
set_option linter.unusedVariables false
set_option linter.unusedSimpArgs false
set_option maxRecDepth 20000
set_option maxHeartbeats 4000000
def cOf (G : Grp) (k i : Nat) : Ct := (G.rs.getD i Rep0).cs.getD k Ct0
def bad (G : Grp) (k i j : Nat) : Prop := ¬ isF G.fa (i : Int) ∧ ¬ isF G.fa (j : Int) ∧ 0 < (cOf G k i).ps.length ∧ 0 < (cOf G k j).ps.length ∧ (cOf G k i).vw = (cOf G k j).vw ∧ (cOf G k i).bd ≠ (cOf G k j).bd
theorem prcG {G : Grp} {c : Ct} : c ∈ prc (ly G) (ly G).length ↔ ∃ i, i < G.rs.length ∧ ¬ isF G.fa (i : Int) ∧ ∃ j, j < (G.rs.getD i Rep0).cs.length ∧ ¬ (cOf G j i).E ∧ c = cOf G j i := by
 rw [L3]
 constructor
 ·rintro ⟨a, h1, h2⟩
  have hm : (ly G).getD a Rep0 ∈ ly G := by rw [List.getD_eq_getElem?_getD, List.getElem?_eq_getElem h1]; exact List.getElem_mem _
  obtain ⟨i, i1, i2, e⟩ := (N3 G _ _).1 hm
  obtain ⟨j, j1, j2, j3⟩ := (J2 _ c).1 h2
  rw [e] at j1 j2 j3
  exact ⟨i, i1, i2, j, j1, j2, j3⟩
 ·rintro ⟨i, i1, i2, j, j1, j2, j3⟩
  have hm : G.rs.getD i Rep0 ∈ ly G := (N3 G _ _).2 ⟨i, i1, i2, rfl⟩
  obtain ⟨a, h1, e⟩ := List.getElem_of_mem hm
  refine ⟨a, h1, (J2 _ c).2 ?_⟩
  rw [show (ly G).getD a Rep0 = G.rs.getD i Rep0 by rw [List.getD_eq_getElem?_getD, List.getElem?_eq_getElem h1]; exact e]
  exact ⟨j, j1, j2, j3⟩
theorem cs_g {G : Grp} (h : G.OK) {i : Nat} (hi : i < G.rs.length) : (G.rs.getD i Rep0).cs.length = 8 := (h.2.1 i hi).2.2.1.2.2.2.2.1
theorem ce_g {G : Grp} (h : G.OK) {i j : Nat} (hi : i < G.rs.length) (hj : j < (G.rs.getD i Rep0).cs.length) (hE : ¬ (cOf G j i).E) : 0 < (cOf G j i).ps.length ∧ (cOf G j i).sq = (j : Int) + 1 := by
 obtain ⟨_, e2, e3⟩ := h.2.1 i hi
 obtain ⟨⟨hn, _, hv, _, hc8, _, _⟩, _, hc, _⟩ := e3
 obtain ⟨c1, c2, c3⟩ := hc j hj hE
 exact ⟨hce ⟨hn, c1⟩, c2⟩
theorem cflBad {G : Grp} (h : G.OK) {k i j : Nat} (hk : k < 8) (hi : i < G.rs.length) (hj : j < i) (hb : bad G k i j) : cfl (prc (ly G) (ly G).length) := by
 obtain ⟨b1, b2, b3, b4, b5, b6⟩ := hb
 have hj' : j < G.rs.length := by omega
 have ei : ¬ (cOf G k i).E := fun q => by have := q.2; omega
 have ej : ¬ (cOf G k j).E := fun q => by have := q.2; omega
 have ki : k < (G.rs.getD i Rep0).cs.length := by rw [cs_g h hi]; exact hk
 have kj : k < (G.rs.getD j Rep0).cs.length := by rw [cs_g h hj']; exact hk
 exact ⟨_, prcG.2 ⟨i, hi, b1, k, ki, ei, rfl⟩, _, prcG.2 ⟨j, hj', b2, k, kj, ej, rfl⟩, b5, by rw [(ce_g h hi ki ei).2, (ce_g h hj' kj ej).2], b6⟩
theorem noBad {G : Grp} (h : G.OK) (hn : ∀ k, k < 8 → ∀ i, i < G.rs.length → ∀ j, j < i → ¬ bad G k i j) : cag G := by
 rintro ⟨c, hc, d, hd, h1, h2, h3⟩
 obtain ⟨i, i1, i2, k, k1, k2, rfl⟩ := prcG.1 hc
 obtain ⟨j, j1, j2, l, l1, l2, rfl⟩ := prcG.1 hd
 obtain ⟨p1, q1⟩ := ce_g h i1 k1 k2
 obtain ⟨p2, q2⟩ := ce_g h j1 l1 l2
 rw [q1, q2] at h2
 obtain rfl : k = l := by omega
 rw [cs_g h i1] at k1
 rcases Nat.lt_trichotomy i j with q | q | q
 ·exact hn k k1 j j1 i q ⟨j2, i2, p2, p1, h1.symm, fun e => h3 e.symm⟩
 ·subst q; exact h3 rfl
 ·exact hn k k1 i i1 j q ⟨i2, j2, p1, p2, h1, h3⟩
theorem r36 (G : Grp) (hb : TBs 1048576 G.T) : Pure En 36 [.agg G.T] [.one (.bool (decide (G.OK ∧ cag G))), .one (.int .i64 (if G.OK then 0 else 1))] := by
 obtain ⟨hF, hR0, hR, hW, hS9⟩ := Grp.sm hb
 have hl : (G.rs.map Rep.T).length = G.rs.length := List.length_map ..
 refine Pure.of_ev (st := []) Tryz.func36 rfl kb ?_
 (apply C5 (vs := [.int _ _, _, _, _, _]) j2; exact Q0; exact Q2; rfl; exact kb; rfl)
 refine B2 (r32 G hb) rfl j2 ?_ ?_ <;> intro h1_1
 ·refine B1 (fun (a : Nat × Nat) => [.unk, .ptr 0 0 0, .unk, .unk, .int .i64 a.1]) (fun (a : Nat × Nat) => hp [(0, ⟨[[.int .i64 G.nd, .sl false false (G.fa.map iT), .sl false false (G.rs.map Rep.T), .sl false false (G.wi.map Pc.T), .sl false false (G.se.map Msg.T)]], 5, 67⟩)]) (fun (a : Nat × Nat) => a.2) (fun (a : Nat × Nat) => a.1 ≤ 8 ∧ 1 ≤ a.2 ∧ ∀ q, q < a.1 → ∀ i, i < G.rs.length → ∀ j, j < i → ¬ bad G q i j) (fun (a : Nat × Nat) => 8 - a.1) (0, 1) ?_ ?_ ?_ ?_ ?_
  ·exact ⟨Nat.zero_le _, Nat.le_refl _, D9⟩
  ·(repeat first | exact LE.nil _ | refine LE.unk _ _ ?_ | refine LE.eq _ _ _ rfl ?_)
  ·(repeat first | exact A5 | (refine A6 ?_ ?_; exact F8))
  ·exact Nat.le_refl _
  intro ⟨k, m⟩ hI ih
  obtain ⟨u0, u1, u2⟩ := hI
  dsimp only at u0 u1 u2 ⊢
  have ihA := ih
  have hnd := h1_1.1.2.2.1
  refine A4 (st := []) ?_
  refine br ?_ ?_ <;> intro h4_1
  ·refine B1 (fun (a : Nat × Nat) => [.unk, .ptr 0 0 0, .unk, .unk, .int .i64 k, .int .i64 a.1]) (fun (a : Nat × Nat) => hp [(0, ⟨[[.int .i64 G.nd, .sl false false (G.fa.map iT), .sl false false (G.rs.map Rep.T), .sl false false (G.wi.map Pc.T), .sl false false (G.se.map Msg.T)]], 5, 67⟩)]) (fun (a : Nat × Nat) => a.2) (fun (a : Nat × Nat) => a.1 ≤ G.rs.length ∧ 1 ≤ a.2 ∧ ∀ x, x < a.1 → ∀ j, j < x → ¬ bad G k x j) (fun (a : Nat × Nat) => G.rs.length - a.1) (0, m) ?_ ?_ ?_ ?_ ?_
   ·exact ⟨Nat.zero_le _, u1, D9⟩
   ·(repeat first | exact LE.nil _ | refine LE.unk _ _ ?_ | refine LE.eq _ _ _ rfl ?_)
   ·(repeat first | exact A5 | (refine A6 ?_ ?_; exact F8))
   ·exact Nat.le_refl _
   intro ⟨i, m1⟩ hI ih
   obtain ⟨v0, v1, v2⟩ := hI
   dsimp only at v0 v1 v2 ⊢
   have ihB := ih
   refine A4 (st := []) ?_
   refine A2 ?_ (by exact Q0) (by exact Q2)
   refine br ?_ ?_ <;> intro h7_3
   ·refine B1 (fun (a : Nat × Nat) => [.unk, .ptr 0 0 0, .unk, .unk, .int .i64 k, .int .i64 i, .int .i64 a.1]) (fun (a : Nat × Nat) => hp [(0, ⟨[[.int .i64 G.nd, .sl false false (G.fa.map iT), .sl false false (G.rs.map Rep.T), .sl false false (G.wi.map Pc.T), .sl false false (G.se.map Msg.T)]], 5, 67⟩)]) (fun (a : Nat × Nat) => a.2) (fun (a : Nat × Nat) => a.1 ≤ i ∧ 1 ≤ a.2 ∧ ∀ x, x < a.1 → ¬ bad G k i x) (fun (a : Nat × Nat) => i - a.1) (0, m1) ?_ ?_ ?_ ?_ ?_
    ·exact ⟨Nat.zero_le _, v1, D9⟩
    ·(repeat first | exact LE.nil _ | refine LE.unk _ _ ?_ | refine LE.eq _ _ _ rfl ?_)
    ·(repeat first | exact A5 | (refine A6 ?_ ?_; exact F8))
    ·exact Nat.le_refl _
    intro ⟨j, m2⟩ hI ih
    obtain ⟨w0, w1, w2⟩ := hI
    dsimp only at w0 w1 w2 ⊢
    refine A4 (st := []) ?_
    refine br ?_ ?_ <;> intro h10_2
    ·have c8i := cs_g h1_1 (i := i) (by omega)
     have c8j := cs_g h1_1 (i := j) (by omega)
     have li : ((G.rs.getD i Rep0).cs.map (Ct.T false)).length = (G.rs.getD i Rep0).cs.length := List.length_map ..
     have lj : ((G.rs.getD j Rep0).cs.map (Ct.T false)).length = (G.rs.getD j Rep0).cs.length := List.length_map ..
     have pi : (((G.rs.getD i Rep0).cs.getD k Ct0).ps.map Msg.T).length = ((G.rs.getD i Rep0).cs.getD k Ct0).ps.length := List.length_map ..
     have pj : (((G.rs.getD j Rep0).cs.getD k Ct0).ps.map Msg.T).length = ((G.rs.getD j Rep0).cs.getD k Ct0).ps.length := List.length_map ..
     refine A2 ?_ (by exact Q0) (by exact Q2)
     (refine sd (by exact Q25) (C4 (by first | rfl | assumption | exact Q27) rfl ?_))
     (refine sd (by exact Q25) (C4 (by first | rfl | assumption | exact Q27) rfl ?_))
     (apply est (u := .agg [.str _, _]) j3; exact Q0; exact Q2; exact j4; exact kb; rfl)
     refine A2 ?_ (by exact Q0) (by exact Q2)
     (refine sd (by exact Q25) (C4 (by first | rfl | assumption | exact Q27) rfl ?_))
     (refine sd (by exact Q25) (C4 (by first | rfl | assumption | exact Q27) rfl ?_))
     (apply est (u := .agg [.str _, _]) j3; exact Q0; exact Q2; exact j4; exact kb; rfl)
     refine A2 ?_ (by exact Q0) (by exact Q2)
     refine B2 (r103 G.fa (i : Int) false hF) rfl j2 ?_ ?_ <;> intro h14_3
     ·refine D4 ⟨by exact Q25, by exact Q25⟩ ?_
      exact D1 (ih (j + 1, m2 + 1 + 1) ⟨by dsimp only; omega, by dsimp only; omega, C9 w2 (fun ⟨q1, q2, q3, q4, q5, q6⟩ => by unfold cOf at q3 q4 q5 q6; first | exact q1 h14_3 | exact q2 h14_9 | omega | exact h14_35 q5 | exact h14_42 q6)⟩ (by dsimp only; omega)) (by (repeat first | exact LE.nil _ | refine LE.unk _ _ ?_ | refine LE.eq _ _ _ rfl ?_)) (by (repeat first | exact A5 | (refine A6 ?_ ?_; exact F8))) (Nat.le_refl _)
     ·refine A2 ?_ (by exact Q0) (by exact Q2)
      refine B2 (r103 G.fa (j : Int) false hF) rfl j2 ?_ ?_ <;> intro h14_9
      ·refine D4 ⟨by exact Q25, by exact Q25⟩ ?_
       exact D1 (ih (j + 1, m2 + 1 + 1) ⟨by dsimp only; omega, by dsimp only; omega, C9 w2 (fun ⟨q1, q2, q3, q4, q5, q6⟩ => by unfold cOf at q3 q4 q5 q6; first | exact q1 h14_3 | exact q2 h14_9 | omega | exact h14_35 q5 | exact h14_42 q6)⟩ (by dsimp only; omega)) (by (repeat first | exact LE.nil _ | refine LE.unk _ _ ?_ | refine LE.eq _ _ _ rfl ?_)) (by (repeat first | exact A5 | (refine A6 ?_ ?_; exact F8))) (Nat.le_refl _)
      ·refine A2 ?_ (by exact Q0) (by exact Q2)
       refine br ?_ ?_ <;> intro h14_16
       ·refine A2 ?_ (by exact Q0) (by exact Q2)
        refine br ?_ ?_ <;> intro h14_22
        ·refine A2 ?_ (by exact Q0) (by exact Q2)
         (refine sd (by exact Q25) (C4 (by first | rfl | assumption | exact Q27) rfl ?_))
         refine A2 ?_ (by exact Q0) (by exact Q2)
         (refine sd (by exact Q25) (C4 (by first | rfl | assumption | exact Q27) rfl ?_))
         refine br ?_ ?_ <;> intro h14_35
         ·refine A2 ?_ (by exact Q0) (by exact Q2)
          refine A2 ?_ (by exact Q0) (by exact Q2)
          refine br ?_ ?_ <;> intro h14_42
          ·rw [decide_eq_false (show ¬ (G.OK ∧ cag G) from fun q => q.2 (cflBad h1_1 (k := k) (i := i) (j := j) (by omega) (by omega) (by omega) ⟨h14_3, h14_9, by unfold cOf; omega, by unfold cOf; omega, h14_35, h14_42⟩)), if_pos h1_1]; exact B5 rfl rfl
          ·refine D4 ⟨by exact Q25, by exact Q25⟩ ?_
           exact D1 (ih (j + 1, m2 + 1 + 1) ⟨by dsimp only; omega, by dsimp only; omega, C9 w2 (fun ⟨q1, q2, q3, q4, q5, q6⟩ => by unfold cOf at q3 q4 q5 q6; first | exact q1 h14_3 | exact q2 h14_9 | omega | exact h14_35 q5 | exact h14_42 q6)⟩ (by dsimp only; omega)) (by (repeat first | exact LE.nil _ | refine LE.unk _ _ ?_ | refine LE.eq _ _ _ rfl ?_)) (by (repeat first | exact A5 | (refine A6 ?_ ?_; exact F8))) (Nat.le_refl _)
         ·refine D4 ⟨by exact Q25, by exact Q25⟩ ?_
          exact D1 (ih (j + 1, m2 + 1 + 1) ⟨by dsimp only; omega, by dsimp only; omega, C9 w2 (fun ⟨q1, q2, q3, q4, q5, q6⟩ => by unfold cOf at q3 q4 q5 q6; first | exact q1 h14_3 | exact q2 h14_9 | omega | exact h14_35 q5 | exact h14_42 q6)⟩ (by dsimp only; omega)) (by (repeat first | exact LE.nil _ | refine LE.unk _ _ ?_ | refine LE.eq _ _ _ rfl ?_)) (by (repeat first | exact A5 | (refine A6 ?_ ?_; exact F8))) (Nat.le_refl _)
        ·refine D4 ⟨by exact Q25, by exact Q25⟩ ?_
         exact D1 (ih (j + 1, m2 + 1 + 1) ⟨by dsimp only; omega, by dsimp only; omega, C9 w2 (fun ⟨q1, q2, q3, q4, q5, q6⟩ => by unfold cOf at q3 q4 q5 q6; first | exact q1 h14_3 | exact q2 h14_9 | omega | exact h14_35 q5 | exact h14_42 q6)⟩ (by dsimp only; omega)) (by (repeat first | exact LE.nil _ | refine LE.unk _ _ ?_ | refine LE.eq _ _ _ rfl ?_)) (by (repeat first | exact A5 | (refine A6 ?_ ?_; exact F8))) (Nat.le_refl _)
       ·refine D4 ⟨by exact Q25, by exact Q25⟩ ?_
        exact D1 (ih (j + 1, m2 + 1 + 1) ⟨by dsimp only; omega, by dsimp only; omega, C9 w2 (fun ⟨q1, q2, q3, q4, q5, q6⟩ => by unfold cOf at q3 q4 q5 q6; first | exact q1 h14_3 | exact q2 h14_9 | omega | exact h14_35 q5 | exact h14_42 q6)⟩ (by dsimp only; omega)) (by (repeat first | exact LE.nil _ | refine LE.unk _ _ ?_ | refine LE.eq _ _ _ rfl ?_)) (by (repeat first | exact A5 | (refine A6 ?_ ?_; exact F8))) (Nat.le_refl _)
    ·refine D4 ⟨by exact Q25, by exact Q25⟩ ?_
     exact D1 (ihB (i + 1, m2) ⟨by dsimp only; omega, by dsimp only; omega, C9 v2 (fun x hx => w2 x (by omega))⟩ (by dsimp only; omega)) (by (repeat first | exact LE.nil _ | refine LE.unk _ _ ?_ | refine LE.eq _ _ _ rfl ?_)) (by (repeat first | exact A5 | (refine A6 ?_ ?_; exact F8))) (Nat.le_refl _)
   ·refine D4 ⟨by exact Q25, by exact Q25⟩ ?_
    exact D1 (ihA (k + 1, m1) ⟨by dsimp only; omega, by dsimp only; omega, C9 u2 (fun x hx => v2 x (by omega))⟩ (by dsimp only; omega)) (by (repeat first | exact LE.nil _ | refine LE.unk _ _ ?_ | refine LE.eq _ _ _ rfl ?_)) (by (repeat first | exact A5 | (refine A6 ?_ ?_; exact F8))) (Nat.le_refl _)
  ·rw [decide_eq_true (show G.OK ∧ cag G from ⟨h1_1, noBad h1_1 (fun q hq => u2 q (by omega))⟩), if_pos h1_1]; exact B5 rfl rfl
 ·rw [decide_eq_false (fun q : G.OK ∧ cag G => h1_1 q.1), if_neg h1_1]; exact B5 rfl rfl
theorem law7 (G : Grp) (hb : TBs 9223372036854775807 G.T) : Pure En 7 [.agg G.T] [.one (.bool true)] := by
 refine Pure.of_ev (st := []) Tryz.func7 rfl kb ?_
 (apply C5 (vs := [.int _ _, _, _, _, _]) j2; exact Q0; rfl; rfl; exact kb; rfl)
 refine H6 (lz31 G 1048576 (by omega) hb) rfl j2 ?_
 rintro x h2_2
 try dsimp only at h2_2
 have hX : 0 ≤ x → TBs 1048576 G.T := h2_2.2
 have hX1 := h2_2.1
 refine br ?_ ?_ <;> intro h3_1
 ·first | exact B5 rfl rfl | (exfalso; simp_all; done)
 ·(apply C5 (vs := [.int _ _, _, _, _, _]) j2; exact Q0; rfl; rfl; exact kb; rfl)
  refine C2 (lt33 G (hX (by omega))) rfl rfl rfl ?_
  refine C2 (r36 G (hX (by omega))) rfl rfl rfl ?_
  refine brB ?_ ?_ <;> intro h5_4
  ·(apply C5 (vs := [.int _ _, _, _, _, _]) j2; exact Q0; rfl; rfl; exact kb; rfl)
   refine C2 (lt33 G (hX (by omega))) rfl rfl rfl ?_
   (apply est (u := .agg [.int _ _, _, _, _, _]) j3; exact Q0; rfl; exact j4; exact kb; rfl)
   (apply C5 (vs := [.int _ _, _, _, _, _]) j2; exact Q0; rfl; rfl; exact kb; rfl)
   refine C2 (s37 G (hX (by omega))) rfl rfl rfl ?_
   refine brB ?_ ?_ <;> intro h7_3
   ·refine br ?_ ?_ <;> intro h8_6
    ·first | exact B5 rfl rfl | (exfalso; simp_all; done)
    ·(apply C5 (vs := [.int _ _, _, _, _, _]) j2; exact Q0; rfl; rfl; exact kb; rfl)
     (apply C5 (vs := [.int _ _, _, _, _, _]) j2; exact Q0; rfl; rfl; exact kb; rfl)
     refine C2 (lt33 G (hX (by omega))) rfl rfl rfl ?_
     refine C2 (le35 G (hX (by omega))) rfl rfl rfl ?_
     first | exact B5 rfl rfl | (exfalso; simp_all; done)
   ·first | exact B5 rfl rfl | (exfalso; simp_all; done)
  ·(apply C5 (vs := [.int _ _, _, _, _, _]) j2; exact Q0; rfl; rfl; exact kb; rfl)
   refine C2 (lt33 G (hX (by omega))) rfl rfl rfl ?_
   (apply est (u := .agg [.int _ _, _, _, _, _]) j3; exact Q0; rfl; exact j4; exact kb; rfl)
   (apply C5 (vs := [.int _ _, _, _, _, _]) j2; exact Q0; rfl; rfl; exact kb; rfl)
   refine C2 (s37 G (hX (by omega))) rfl rfl rfl ?_
   refine brB ?_ ?_ <;> intro h7_3
   ·first | exact B5 rfl rfl | (exfalso; simp_all; done)
   ·refine br ?_ ?_ <;> intro h8_6
    ·first | exact B5 rfl rfl | (exfalso; simp_all; done)
    ·(apply C5 (vs := [.int _ _, _, _, _, _]) j2; exact Q0; rfl; rfl; exact kb; rfl)
     (apply C5 (vs := [.int _ _, _, _, _, _]) j2; exact Q0; rfl; rfl; exact kb; rfl)
     refine C2 (lt33 G (hX (by omega))) rfl rfl rfl ?_
     refine C2 (le35 G (hX (by omega))) rfl rfl rfl ?_
     first | exact B5 rfl rfl | (exfalso; simp_all; done)
open Go Go.ClosedOfChecked
set_option linter.unusedVariables false
set_option maxRecDepth 20000
set_option maxHeartbeats 4000000
theorem joined_intro {P : Program} {f : FuncId} {fn : Func} {s : ChangeSpec} {c : OpenClaim} (a1 : c.wf (OpenSpec.ofChange s) = true) (a2 : laidOutB P = true) (a3 : mapsRowed P = true) (a4 : fn.params.all (P.readableRec ·) = true) (a5 : namedTie P c.named s.vars = true) (a6 : (c.stops == []) = true) (a7 : (P.stops == []) = true) (a8 : (c.knobs == []) = true) (a9 : (P.stopKnobs == []) = true) (b1 : (c.inPlace == P.inPlace f) = true) (b2 : (c.unfollowed == P.unfollowed f) = true) (b3 : (c.recurses == P.recurses f) = true) (b4 : (c.named == P.varsNamed f) = true) (b5 : (c.maps == (fn.params.toList ++ s.plain.varTypes P).any (P.mapsRec ·)) = true) (b6 : (c.ifaces == (fn.params.toList ++ s.plain.varTypes P).any (P.ifacesRec ·)) = true) (b7 : (c.mapsOut == P.mapsAmong fn.resultTypes.toList) = true) (b8 : (c.loops == (fn.params.toList ++ s.plain.varTypes P).any (P.loopsFrom ·)) = true) (b9 : (c.wideKeys == (fn.params.toList ++ s.plain.varTypes P ++ fn.resultTypes.toList).any (P.wideKeysFrom ·)) = true) (c1 : s.vars.all (P.varReadable ·) = true) (c2 : fn.resultTypes.all (fun t => P.readableRec t && decide (t < P.types.size)) = true) (c3 : (c.ifacesOut == fn.resultTypes.toList.any (P.ifacesRec ·)) = true) (c4 : (c.loopsOut == fn.resultTypes.toList.any (P.loopsFrom ·)) = true) (c5 : (c.plainKeys == P.plainKeys) = true) (c6 : c.shortTexts.isNone = true) (c7 : P.stopsHeard = true) (c8 : P.mayEnter = true) (c9 : (c.lifted == P.liftsFinal) = true) (d1 : (P.make == some c.make) = true) (d2 : (c.kinds == (if c.domain.isEmpty then [] else fn.params.toList.map fun t => match P.underlying t with | some (.int k) => some k | _ => none)) = true) (d3 : (c.pinned == c.pinnedBy) = true) (d4 : (c.veiled == (fn.params.toList ++ s.plain.varTypes P ++ fn.resultTypes.toList).any (P.veiledRec ·)) = true) (d5 : c.veiledFits P fn.params.toList (fn.params.toList ++ s.plain.varTypes P ++ fn.resultTypes.toList) = true) : joinedFacts P f fn s c = true := by
 unfold joinedFacts
 simp only [a1, a2, a3, a4, a5, a6, a7, a8, a9, b1, b2, b3, b4, b5, b6, b7, b8, b9, c1, c2, c3, c4, c5, c6, c7, c8, c9, d1, d3, d4, d5, Bool.true_and, Bool.and_true]
 exact d2
theorem jn_ty : Tryz.checked.prog.types = Tryz.checked.src.types := by kernel_rfl
theorem jn_rest : (Tryz.checked.prog.globals.all (fun g => decide (g.type < Tryz.checked.prog.types.size)) && Tryz.checked.prog.funcs.all (fun f => f.params.all fun t => decide (t < Tryz.checked.prog.types.size))) = true := by kernel_rfl
theorem jn_laid : laidOutB Tryz.checked.prog = true := laidOutB_of (allSpec_of Tryz.checked.wellFormed jn_ty) jn_rest
theorem jn_maps : mapsRowed Tryz.checked.prog = true := mapsRowed_of (allSpec_of Tryz.checked.wellFormed jn_ty)
theorem jn_keys : (false == Tryz.checked.prog.plainKeys) = true := by kernel_rfl
theorem jn_stops : (Tryz.prog.stops == []) = true := by kernel_rfl
theorem jn_knobs : (Tryz.prog.stopKnobs == []) = true := by kernel_rfl
theorem jn_heard : Tryz.prog.stopsHeard = true := by kernel_rfl
theorem jn_enter : Tryz.prog.mayEnter = true := by kernel_rfl
end Go.Proofs.YteifdelnahccjaaGreatDoor
namespace Go.Proofs.YteifdelnahccjaaGreatDoor.fnExactCertsAgree
open Go
set_option linter.unusedVariables false
set_option maxRecDepth 20000
set_option maxHeartbeats 4000000
theorem k1 : (Rows.fnExactCertsAgreeRow.inPlace == Tryz.pinned.checked.prog.inPlace 7) = true := by kernel_rfl
theorem k2 : (Rows.fnExactCertsAgreeRow.unfollowed == Tryz.pinned.checked.prog.unfollowed 7) = true := by kernel_rfl
theorem k3 : (Rows.fnExactCertsAgreeRow.recurses == Tryz.pinned.checked.prog.recurses 7) = true := by kernel_rfl
theorem k4 : (Rows.fnExactCertsAgreeRow.named == Tryz.pinned.checked.prog.varsNamed 7) = true := by kernel_rfl
theorem k5 : (Rows.fnExactCertsAgreeRow.lifted == Tryz.pinned.checked.prog.liftsFinal) = true := by kernel_rfl
theorem k6 : (Tryz.pinned.checked.prog.make == some Rows.fnExactCertsAgreeRow.make) = true := by kernel_rfl
theorem joined : joinedFacts Tryz.pinned.checked.prog 7 Tryz.f7 (OpenSpec.ofChange Rows.fnExactCertsAgreeSpec).bare Rows.fnExactCertsAgreeRow = true :=
 joined_intro (by kernel_rfl) jn_laid jn_maps (by kernel_rfl) (by kernel_rfl) (by kernel_rfl) jn_stops (by kernel_rfl) jn_knobs k1 k2 k3 k4 (by kernel_rfl) (by kernel_rfl) (by kernel_rfl) (by kernel_rfl) (by kernel_rfl)
  (by kernel_rfl) (by kernel_rfl) (by kernel_rfl) (by kernel_rfl) jn_keys (by kernel_rfl) jn_heard jn_enter k5 k6 (by kernel_rfl) (by kernel_rfl) (by kernel_rfl) (by kernel_rfl)
theorem w1 : Rows.fnExactCertsAgreeRow.wfByText (OpenSpec.ofChange Rows.fnExactCertsAgreeSpec) = true := by kernel_rfl
theorem w3 : false = Rows.fnExactCertsAgreeRow.goesBy Tryz.pinned.checked.prog := by kernel_rfl
theorem w4 : false = Tryz.pinned.checked.prog.looks [] := by kernel_rfl
theorem w5 : Tryz.prog.funcNamed "loop.example/g00292/laws.FnExactCertsAgree" = some 7 := by kernel_rfl
theorem st61 : Tryz.prog.wantsStandIn 61 = false := by kernel_rfl
theorem plain (f : FuncId) (fn : Func) (hf : Tryz.pinned.checked.prog.funcNamed "loop.example/g00292/laws.FnExactCertsAgree" = some f) (hfn : Tryz.pinned.checked.prog.funcs[f]? = some fn) :
  false = Tryz.pinned.checked.prog.looks [] ∧ ∀ (j : Nat) t, fn.params[j]? = some t → Tryz.pinned.checked.prog.wantsStandIn t = false := by
 obtain rfl : f = 7 := Option.some.inj (w5.symm.trans hf) |>.symm
 obtain rfl : fn = Tryz.f7 := (Option.some.inj (Tryz.func7.symm.trans hfn)).symm
 refine ⟨w4, fun j t ht => ?_⟩
 rw [Tryz.params7] at ht
 have hm := Array.mem_of_getElem? ht
 simp only [List.mem_toArray, List.mem_cons, List.not_mem_nil, or_false] at hm
 obtain rfl := hm
 exact st61
end Go.Proofs.YteifdelnahccjaaGreatDoor.fnExactCertsAgree
