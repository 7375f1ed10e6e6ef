import Derived.Test.YteifdelnahccjaaGreatDoorRows
import Derived.ProofKit
import Derived.ClosedOfChecked
import Derived.Deep.DeepHandedRow
import Derived.Test.YteifdelnahccjaaGreatDoorCards
import Derived.Test.YteifdelnahccjaaGreatDoorE13
namespace Go.Proofs.YteifdelnahccjaaGreatDoor
open Go Go.V
set_option linter.unusedVariables false
set_option linter.unusedSimpArgs false
set_option maxRecDepth 20000
set_option maxHeartbeats 4000000
theorem law9v (G : Grp) (hb : TBs 9223372036854775807 G.T) (hok : G.OK) (hz : lgW G ≠ []) : Pure En 9 [.agg G.T] [.one (.bool true)] := by
 refine Pure.of_ev (st := [7, 10]) Tryz.func9 rfl kb ?_
 (apply D2 (vs := [.int _ _, _, _, _, _]) j2; exact Q1; exact Q4; rfl; exact kb; rfl)
 refine J3 (lc31 G 1048576 (by omega) hb) rfl j2 ?_
 rintro x h2_2
 try dsimp only at h2_2
 refine br ?_ ?_ <;> intro h3_1
 ·exact C2 rfl rfl
 ·(apply D2 (vs := [.int _ _, _, _, _, _]) j2; exact Q1; exact Q4; rfl; exact kb; rfl)
  refine C5 (lt33 G (h2_2.2 (by omega)).1) rfl rfl rfl ?_
  refine C5 (r40 G (h2_2.2 (by omega)).1) rfl rfl rfl ?_
  (apply D2 (vs := [.int _ _, _, _, _, _]) j2; exact Q1; exact Q4; rfl; exact kb; rfl)
  refine E9 (ot33 G (h2_2.2 (by omega)).1) rfl j2 ?_
  rintro v0 wr0 m0 ⟨S0, c, rfl, oc, hN, hc0⟩ hle0
  have hq0 := (hN.fr 0 (by omega)).trans (by (repeat first | with_reducible assumption | exact H4 (by omega) rfl | apply D8 (by omega)))
  refine gotRA ?_
  (apply est (u := .agg c) (ys := c) j3; exact Q1; rfl; exact j2; (exact oc.len); (exact oc.cell); exact kb; exact E6 oc.len.symm)
  refine H2 fun GG hGG => ?_
  have hX := (h2_2.2 (by omega)).1
  have hct := (h2_2.2 (by omega)).2
  have hW : (lgW G).length ≤ 1048577 := Nat.le_succ_of_le (lgW_le hX)
  have oc6 : OwnR GG kGrp S0 c G.T := oc.congr fun j hj => by
   have := (hN.rg j hj).2
   rw [hGG]; (repeat first | with_reducible rfl | refine D8 (by omega) ?_)
  have hq6 := (show GG 0 = app wr0 _ 0 from by rw [hGG]; exact D8 (by omega) (D8 (by omega) rfl)).trans hq0
  have hb6 : GG m0 = some ⟨[c], 5, 67⟩ := by rw [hGG]; exact H4 rfl rfl
  (apply D2 (vs := c) j2; exact Q1; rfl; rfl; (exact Nat.le_of_eq (oc.len.symm)); (rw [List.drop_zero]; exact List.take_of_length_le (Nat.le_of_eq oc.len)))
  (apply efs S0 (o41V G hX hok hz (m0 + 1)) rfl j2; (exact (SnapL.cons _ _ _ _ (SnapC.agg (oc6.snapC (fun _ h => h))) SnapL.nil)); rfl; (exact flat1 (fL_str _)); exact List.cons_ne_nil _ _)
  apply U4 [m0 + 1] (s17 true false (lgW G) hW) rfl rfl rfl
  ·exact (SnapL.cons _ _ _ _ (.one _ _ (B5 ((lgW G).map tT) (by simp) (by exact Q1) (AX _) (List.length_map ..).symm)) (SnapL.cons _ _ _ _ (.one _ _ (.sl _ _ _ (fun h => by cases h))) SnapL.nil))
  refine br (fun h => absurd h ((fun hh => hh rfl))) ?_
  intro h8_7
  refine H2 fun G8 hG8 => ?_
  have oc8 : OwnR G8 kGrp S0 c G.T := oc6.congr fun j hj => by
   have := (hN.rg j hj).2
   rw [hG8]; exact D8 (by omega) rfl
  have hq8 := (show G8 0 = GG 0 from by rw [hG8]; exact D8 (by omega) rfl).trans hq6
  have hb8 : G8 m0 = some ⟨[c], 5, 67⟩ := by rw [hG8]; exact D8 (by omega) hb6
  have hg8 : G8 (m0 + 1) = some ⟨(lgW G).map tV, 1, 9⟩ := by rw [hG8]; exact H4 rfl rfl
  (apply D2 (vs := c) j2; exact Q1; rfl; rfl; (exact Nat.le_of_eq (oc.len.symm)); (rw [List.drop_zero]; exact List.take_of_length_le (Nat.le_of_eq oc.len)))
  (apply D2 (vs := [.int _ _, _, _, _, _]) j2; exact Q1; exact Q4; rfl; exact kb; rfl)
  refine C5 (lt33 G hX) rfl rfl rfl ?_
  apply U4 S0 (le35 G hX) rfl rfl rfl
  ·exact (SnapL.cons _ _ _ _ (SnapC.agg (oc8.snapC (fun _ h => h))) (SnapL.cons _ _ _ _ (SnapC.agg (F1 G.T)) SnapL.nil))
  (apply D2 (vs := c) j2; exact Q1; rfl; rfl; (exact Nat.le_of_eq (oc.len.symm)); (rw [List.drop_zero]; exact List.take_of_length_le (Nat.le_of_eq oc.len)))
  refine E9 (oms42 G 1 (by omega) (by unfold ctGrp at hct; unfold ct0Grp; omega) oc8 hN.nd (fun j hj => by have := (hN.rg j hj).2; omega)) rfl j2 ?_
  rintro v1 wr1 m3 ⟨rfl, _, hf1, hc1⟩ hle1
  unfold Fr at hf1
  have hq9 := (hf1 0 (by omega) (fun q => by have := (hN.rg 0 q).1; omega)).trans hq8
  have hg2 := (hf1 (m0 + 1) (by omega) (fun q => by have := (hN.rg (m0 + 1) q).2; omega)).trans hg8
  refine br (fun h => absurd h ((by omega))) ?_
  intro h14_1
  apply U4 [m0 + 1] (s17 true false (lgW G) hW) rfl rfl rfl
  ·exact (SnapL.cons _ _ _ _ (.one _ _ (B5 ((lgW G).map tT) (by simp) (by exact Q1) (AX _) (List.length_map ..).symm)) (SnapL.cons _ _ _ _ (.one _ _ (.sl _ _ _ (fun h => by cases h))) SnapL.nil))
  refine br (fun h => absurd h ((fun hh => hh rfl))) ?_
  intro h14_11
  refine O3 (o20 (lgW G) 1 (by omega) hW (id := m0 + 1) ?_ ?_) rfl rfl rfl ?_
  ·(first | omega | assumption | decide | exact Q1)
  ·(first | omega | assumption | decide | exact Q1)
  apply U4 [m0 + 1] (s21 true 1 (lgW G).length (by omega) hW) rfl rfl rfl
  ·exact (SnapL.cons _ _ _ _ (.one _ _ (B5 ((MS 1 (lgW G).length).map tT) (by simp) (by exact Q1) (AX _) (by rw [List.length_map, Z9]))) (SnapL.cons _ _ _ _ (.one _ _ (.int _ _)) SnapL.nil))
  refine br (fun h => absurd h ((by omega))) ?_
  intro h20_1
  refine br (fun h => absurd h ((fun hh => hh rfl))) ?_
  intro h22_2
  (apply D2 (vs := [.int _ _, _, _, _, _]) j2; exact Q1; exact Q4; rfl; exact kb; rfl)
  refine C5 (lt33 G hX) rfl rfl rfl ?_
  refine C5 (s41 G hX) rfl rfl rfl ?_
  refine C5 (s17 false false (lgW G) hW) rfl rfl rfl ?_
  refine br (fun h => absurd h ((fun hh => hh rfl))) ?_
  intro h25_7
  apply U4 [m0 + 1] (s21 true 1 (lgW G).length (by omega) hW) rfl rfl rfl
  ·exact (SnapL.cons _ _ _ _ (.one _ _ (B5 ((MS 1 (lgW G).length).map tT) (by simp) (by exact Q1) (AX _) (by rw [List.length_map, Z9]))) (SnapL.cons _ _ _ _ (.one _ _ (.int _ _)) SnapL.nil))
  refine br (fun h => absurd h ((by omega))) ?_
  intro h29_1
  refine br (fun h => absurd h ((fun hh => hh rfl))) ?_
  intro h31_2
  exact C2 rfl rfl
theorem law9n (G : Grp) (hb : TBs 9223372036854775807 G.T) (hz : lgW G = []) : Pure En 9 [.agg G.T] [.one (.bool true)] := by
 refine Pure.of_ev (st := [7, 10]) Tryz.func9 rfl kb ?_
 (apply D2 (vs := [.int _ _, _, _, _, _]) j2; exact Q1; exact Q4; rfl; exact kb; rfl)
 refine J3 (lc31 G 1048576 (by omega) hb) rfl j2 ?_
 rintro x h2_2
 try dsimp only at h2_2
 refine br ?_ ?_ <;> intro h3_1
 ·exact C2 rfl rfl
 ·(apply D2 (vs := [.int _ _, _, _, _, _]) j2; exact Q1; exact Q4; rfl; exact kb; rfl)
  refine C5 (lt33 G (h2_2.2 (by omega)).1) rfl rfl rfl ?_
  refine C5 (r40 G (h2_2.2 (by omega)).1) rfl rfl rfl ?_
  (apply D2 (vs := [.int _ _, _, _, _, _]) j2; exact Q1; exact Q4; rfl; exact kb; rfl)
  refine E9 (ot33 G (h2_2.2 (by omega)).1) rfl j2 ?_
  rintro v0 wr0 m0 ⟨S0, c, rfl, oc, hN, hc0⟩ hle0
  have hq0 := (hN.fr 0 (by omega)).trans (by (repeat first | with_reducible assumption | exact H4 (by omega) rfl | apply D8 (by omega)))
  refine gotRA ?_
  (apply est (u := .agg c) (ys := c) j3; exact Q1; rfl; exact j2; (exact oc.len); (exact oc.cell); exact kb; exact E6 oc.len.symm)
  refine H2 fun GG hGG => ?_
  have hX := (h2_2.2 (by omega)).1
  have hct := (h2_2.2 (by omega)).2
  have hW : (lgW G).length ≤ 1048577 := Nat.le_succ_of_le (lgW_le hX)
  have oc6 : OwnR GG kGrp S0 c G.T := oc.congr fun j hj => by
   have := (hN.rg j hj).2
   rw [hGG]; (repeat first | with_reducible rfl | refine D8 (by omega) ?_)
  have hq6 := (show GG 0 = app wr0 _ 0 from by rw [hGG]; exact D8 (by omega) (D8 (by omega) rfl)).trans hq0
  have hb6 : GG m0 = some ⟨[c], 5, 67⟩ := by rw [hGG]; exact H4 rfl rfl
  (apply D2 (vs := c) j2; exact Q1; rfl; rfl; (exact Nat.le_of_eq (oc.len.symm)); (rw [List.drop_zero]; exact List.take_of_length_le (Nat.le_of_eq oc.len)))
  apply U4 S0 (s41 G hX) rfl rfl rfl
  ·exact (SnapL.cons _ _ _ _ (SnapC.agg (oc6.snapC (fun _ h => h))) SnapL.nil)
  refine C5 (s17 false false (lgW G) hW) rfl rfl rfl ?_
  refine br (fun h => absurd h ((fun hh => hh rfl))) ?_
  intro h8_7
  refine H2 fun G8 hG8 => ?_
  have oc8 : OwnR G8 kGrp S0 c G.T := by rw [hG8]; exact oc6
  have hq8 := (show G8 0 = GG 0 from by rw [hG8]).trans hq6
  have hb8 : G8 m0 = some ⟨[c], 5, 67⟩ := by rw [hG8]; exact hb6
  (apply D2 (vs := c) j2; exact Q1; rfl; rfl; (exact Nat.le_of_eq (oc.len.symm)); (rw [List.drop_zero]; exact List.take_of_length_le (Nat.le_of_eq oc.len)))
  (apply D2 (vs := [.int _ _, _, _, _, _]) j2; exact Q1; exact Q4; rfl; exact kb; rfl)
  refine C5 (lt33 G hX) rfl rfl rfl ?_
  apply U4 S0 (le35 G hX) rfl rfl rfl
  ·exact (SnapL.cons _ _ _ _ (SnapC.agg (oc8.snapC (fun _ h => h))) (SnapL.cons _ _ _ _ (SnapC.agg (F1 G.T)) SnapL.nil))
  (apply D2 (vs := c) j2; exact Q1; rfl; rfl; (exact Nat.le_of_eq (oc.len.symm)); (rw [List.drop_zero]; exact List.take_of_length_le (Nat.le_of_eq oc.len)))
  refine E9 (oms42 G 1 (by omega) (by unfold ctGrp at hct; unfold ct0Grp; omega) oc8 hN.nd (fun j hj => by have := (hN.rg j hj).2; omega)) rfl j2 ?_
  rintro v1 wr1 m3 ⟨rfl, _, hf1, hc1⟩ hle1
  unfold Fr at hf1
  have hq9 := (hf1 0 (by omega) (fun q => by have := (hN.rg 0 q).1; omega)).trans hq8
  refine br (fun h => absurd h ((by omega))) ?_
  intro h14_1
  refine C5 (s17 false false (lgW G) hW) rfl rfl rfl ?_
  refine br (fun h => absurd h ((fun hh => hh rfl))) ?_
  intro h14_11
  refine C5 (s20e false _ hz 1) rfl rfl rfl ?_
  refine C5 (s21e false _ hz) rfl rfl rfl ?_
  refine br (fun h => absurd h ((by omega))) ?_
  intro h20_1
  refine br (fun h => absurd h ((fun hh => hh rfl))) ?_
  intro h22_2
  (apply D2 (vs := [.int _ _, _, _, _, _]) j2; exact Q1; exact Q4; rfl; exact kb; rfl)
  refine C5 (lt33 G hX) rfl rfl rfl ?_
  refine C5 (s41 G hX) rfl rfl rfl ?_
  refine C5 (s17 false false (lgW G) hW) rfl rfl rfl ?_
  refine br (fun h => absurd h ((fun hh => hh rfl))) ?_
  intro h25_7
  refine C5 (s21e false _ hz) rfl rfl rfl ?_
  refine br (fun h => absurd h ((by omega))) ?_
  intro h29_1
  refine br (fun h => absurd h ((fun hh => hh rfl))) ?_
  intro h31_2
  exact C2 rfl rfl
theorem law9 (G : Grp) (hb : TBs 9223372036854775807 G.T) : Pure En 9 [.agg G.T] [.one (.bool true)] := by
 by_cases hz : lgW G = []
 ·exact law9n G hb hz
 ·exact law9v G hb (Classical.byContradiction fun q => hz (lgW_n q)) hz
open Go Go.ClosedOfChecked
set_option linter.unusedVariables false
set_option maxRecDepth 20000
set_option maxHeartbeats 4000000
theorem joined_intro {P : Program} {f : FuncId} {fn : Func} {s : ChangeSpec} {c : OpenClaim} (a1 : c.wf (OpenSpec.ofChange s) = true) (a2 : laidOutB P = true) (a3 : mapsRowed P = true) (a4 : fn.params.all (P.readableRec ·) = true) (a5 : namedTie P c.named s.vars = true) (a6 : (c.stops == []) = true) (a7 : (P.stops == []) = true) (a8 : (c.knobs == []) = true) (a9 : (P.stopKnobs == []) = true) (b1 : (c.inPlace == P.inPlace f) = true) (b2 : (c.unfollowed == P.unfollowed f) = true) (b3 : (c.recurses == P.recurses f) = true) (b4 : (c.named == P.varsNamed f) = true) (b5 : (c.maps == (fn.params.toList ++ s.plain.varTypes P).any (P.mapsRec ·)) = true) (b6 : (c.ifaces == (fn.params.toList ++ s.plain.varTypes P).any (P.ifacesRec ·)) = true) (b7 : (c.mapsOut == P.mapsAmong fn.resultTypes.toList) = true) (b8 : (c.loops == (fn.params.toList ++ s.plain.varTypes P).any (P.loopsFrom ·)) = true) (b9 : (c.wideKeys == (fn.params.toList ++ s.plain.varTypes P ++ fn.resultTypes.toList).any (P.wideKeysFrom ·)) = true) (c1 : s.vars.all (P.varReadable ·) = true) (c2 : fn.resultTypes.all (fun t => P.readableRec t && decide (t < P.types.size)) = true) (c3 : (c.ifacesOut == fn.resultTypes.toList.any (P.ifacesRec ·)) = true) (c4 : (c.loopsOut == fn.resultTypes.toList.any (P.loopsFrom ·)) = true) (c5 : (c.plainKeys == P.plainKeys) = true) (c6 : c.shortTexts.isNone = true) (c7 : P.stopsHeard = true) (c8 : P.mayEnter = true) (c9 : (c.lifted == P.liftsFinal) = true) (d1 : (P.make == some c.make) = true) (d2 : (c.kinds == (if c.domain.isEmpty then [] else fn.params.toList.map fun t => match P.underlying t with | some (.int k) => some k | _ => none)) = true) (d3 : (c.pinned == c.pinnedBy) = true) (d4 : (c.veiled == (fn.params.toList ++ s.plain.varTypes P ++ fn.resultTypes.toList).any (P.veiledRec ·)) = true) (d5 : c.veiledFits P fn.params.toList (fn.params.toList ++ s.plain.varTypes P ++ fn.resultTypes.toList) = true) : joinedFacts P f fn s c = true := by
 unfold joinedFacts
 simp only [a1, a2, a3, a4, a5, a6, a7, a8, a9, b1, b2, b3, b4, b5, b6, b7, b8, b9, c1, c2, c3, c4, c5, c6, c7, c8, c9, d1, d3, d4, d5, Bool.true_and, Bool.and_true]
 exact d2
theorem jn_ty : Tryz.checked.prog.types = Tryz.checked.src.types := by kernel_rfl
theorem jn_rest : (Tryz.checked.prog.globals.all (fun g => decide (g.type < Tryz.checked.prog.types.size)) && Tryz.checked.prog.funcs.all (fun f => f.params.all fun t => decide (t < Tryz.checked.prog.types.size))) = true := by kernel_rfl
theorem jn_laid : laidOutB Tryz.checked.prog = true := laidOutB_of (allSpec_of Tryz.checked.wellFormed jn_ty) jn_rest
theorem jn_maps : mapsRowed Tryz.checked.prog = true := mapsRowed_of (allSpec_of Tryz.checked.wellFormed jn_ty)
theorem jn_keys : (false == Tryz.checked.prog.plainKeys) = true := by kernel_rfl
theorem jn_stops : (Tryz.prog.stops == []) = true := by kernel_rfl
theorem jn_knobs : (Tryz.prog.stopKnobs == []) = true := by kernel_rfl
theorem jn_heard : Tryz.prog.stopsHeard = true := by kernel_rfl
theorem jn_enter : Tryz.prog.mayEnter = true := by kernel_rfl
end Go.Proofs.YteifdelnahccjaaGreatDoor
namespace Go.Proofs.YteifdelnahccjaaGreatDoor.fnExactLongestLog
open Go
set_option linter.unusedVariables false
set_option maxRecDepth 20000
set_option maxHeartbeats 4000000
theorem k1 : (Rows.fnExactLongestLogRow.inPlace == Tryz.pinned.checked.prog.inPlace 9) = true := by kernel_rfl
theorem k2 : (Rows.fnExactLongestLogRow.unfollowed == Tryz.pinned.checked.prog.unfollowed 9) = true := by kernel_rfl
theorem k3 : (Rows.fnExactLongestLogRow.recurses == Tryz.pinned.checked.prog.recurses 9) = true := by kernel_rfl
theorem k4 : (Rows.fnExactLongestLogRow.named == Tryz.pinned.checked.prog.varsNamed 9) = true := by kernel_rfl
theorem k5 : (Rows.fnExactLongestLogRow.lifted == Tryz.pinned.checked.prog.liftsFinal) = true := by kernel_rfl
theorem k6 : (Tryz.pinned.checked.prog.make == some Rows.fnExactLongestLogRow.make) = true := by kernel_rfl
theorem joined : joinedFacts Tryz.pinned.checked.prog 9 Tryz.f9 (OpenSpec.ofChange Rows.fnExactLongestLogSpec).bare Rows.fnExactLongestLogRow = true :=
 joined_intro (by kernel_rfl) jn_laid jn_maps (by kernel_rfl) (by kernel_rfl) (by kernel_rfl) jn_stops (by kernel_rfl) jn_knobs k1 k2 k3 k4 (by kernel_rfl) (by kernel_rfl) (by kernel_rfl) (by kernel_rfl) (by kernel_rfl)
  (by kernel_rfl) (by kernel_rfl) (by kernel_rfl) (by kernel_rfl) jn_keys (by kernel_rfl) jn_heard jn_enter k5 k6 (by kernel_rfl) (by kernel_rfl) (by kernel_rfl) (by kernel_rfl)
theorem w1 : Rows.fnExactLongestLogRow.wfByText (OpenSpec.ofChange Rows.fnExactLongestLogSpec) = true := by kernel_rfl
theorem w3 : false = Rows.fnExactLongestLogRow.goesBy Tryz.pinned.checked.prog := by kernel_rfl
theorem w4 : false = Tryz.pinned.checked.prog.looks [] := by kernel_rfl
theorem w5 : Tryz.prog.funcNamed "loop.example/g00292/laws.FnExactLongestLog" = some 9 := by kernel_rfl
theorem st61 : Tryz.prog.wantsStandIn 61 = false := by kernel_rfl
theorem plain (f : FuncId) (fn : Func) (hf : Tryz.pinned.checked.prog.funcNamed "loop.example/g00292/laws.FnExactLongestLog" = some f) (hfn : Tryz.pinned.checked.prog.funcs[f]? = some fn) :
  false = Tryz.pinned.checked.prog.looks [] ∧ ∀ (j : Nat) t, fn.params[j]? = some t → Tryz.pinned.checked.prog.wantsStandIn t = false := by
 obtain rfl : f = 9 := Option.some.inj (w5.symm.trans hf) |>.symm
 obtain rfl : fn = Tryz.f9 := (Option.some.inj (Tryz.func9.symm.trans hfn)).symm
 refine ⟨w4, fun j t ht => ?_⟩
 rw [Tryz.params9] at ht
 have hm := Array.mem_of_getElem? ht
 simp only [List.mem_toArray, List.mem_cons, List.not_mem_nil, or_false] at hm
 obtain rfl := hm
 exact st61
end Go.Proofs.YteifdelnahccjaaGreatDoor.fnExactLongestLog
