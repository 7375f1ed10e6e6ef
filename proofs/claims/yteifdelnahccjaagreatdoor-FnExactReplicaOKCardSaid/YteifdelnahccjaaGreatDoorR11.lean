import Derived.Test.YteifdelnahccjaaGreatDoorRows
import Derived.ProofKit
import Derived.ClosedOfChecked
import Derived.Deep.DeepHandedRow
import Derived.Test.YteifdelnahccjaaGreatDoorCards
import Derived.Test.YteifdelnahccjaaGreatDoorR10
namespace Go.Proofs.YteifdelnahccjaaGreatDoor
open Go Go.ClosedOfChecked
set_option linter.unusedVariables false
set_option maxRecDepth 20000
set_option maxHeartbeats 4000000
theorem joined_intro {P : Program} {f : FuncId} {fn : Func} {s : ChangeSpec} {c : OpenClaim} (a1 : c.wf (OpenSpec.ofChange s) = true) (a2 : laidOutB P = true) (a3 : mapsRowed P = true) (a4 : fn.params.all (P.readableRec ·) = true) (a5 : namedTie P c.named s.vars = true) (a6 : (c.stops == []) = true) (a7 : (P.stops == []) = true) (a8 : (c.knobs == []) = true) (a9 : (P.stopKnobs == []) = true) (b1 : (c.inPlace == P.inPlace f) = true) (b2 : (c.unfollowed == P.unfollowed f) = true) (b3 : (c.recurses == P.recurses f) = true) (b4 : (c.named == P.varsNamed f) = true) (b5 : (c.maps == (fn.params.toList ++ s.plain.varTypes P).any (P.mapsRec ·)) = true) (b6 : (c.ifaces == (fn.params.toList ++ s.plain.varTypes P).any (P.ifacesRec ·)) = true) (b7 : (c.mapsOut == P.mapsAmong fn.resultTypes.toList) = true) (b8 : (c.loops == (fn.params.toList ++ s.plain.varTypes P).any (P.loopsFrom ·)) = true) (b9 : (c.wideKeys == (fn.params.toList ++ s.plain.varTypes P ++ fn.resultTypes.toList).any (P.wideKeysFrom ·)) = true) (c1 : s.vars.all (P.varReadable ·) = true) (c2 : fn.resultTypes.all (fun t => P.readableRec t && decide (t < P.types.size)) = true) (c3 : (c.ifacesOut == fn.resultTypes.toList.any (P.ifacesRec ·)) = true) (c4 : (c.loopsOut == fn.resultTypes.toList.any (P.loopsFrom ·)) = true) (c5 : (c.plainKeys == P.plainKeys) = true) (c6 : c.shortTexts.isNone = true) (c7 : P.stopsHeard = true) (c8 : P.mayEnter = true) (c9 : (c.lifted == P.liftsFinal) = true) (d1 : (P.make == some c.make) = true) (d2 : (c.kinds == (if c.domain.isEmpty then [] else fn.params.toList.map fun t => match P.underlying t with | some (.int k) => some k | _ => none)) = true) (d3 : (c.pinned == c.pinnedBy) = true) (d4 : (c.veiled == (fn.params.toList ++ s.plain.varTypes P ++ fn.resultTypes.toList).any (P.veiledRec ·)) = true) (d5 : c.veiledFits P fn.params.toList (fn.params.toList ++ s.plain.varTypes P ++ fn.resultTypes.toList) = true) : joinedFacts P f fn s c = true := by
 unfold joinedFacts
 simp only [a1, a2, a3, a4, a5, a6, a7, a8, a9, b1, b2, b3, b4, b5, b6, b7, b8, b9, c1, c2, c3, c4, c5, c6, c7, c8, c9, d1, d3, d4, d5, Bool.true_and, Bool.and_true]
 exact d2
theorem jn_ty : Tryz.checked.prog.types = Tryz.checked.src.types := by kernel_rfl
theorem jn_rest : (Tryz.checked.prog.globals.all (fun g => decide (g.type < Tryz.checked.prog.types.size)) && Tryz.checked.prog.funcs.all (fun f => f.params.all fun t => decide (t < Tryz.checked.prog.types.size))) = true := by kernel_rfl
theorem jn_laid : laidOutB Tryz.checked.prog = true := laidOutB_of (allSpec_of Tryz.checked.wellFormed jn_ty) jn_rest
theorem jn_maps : mapsRowed Tryz.checked.prog = true := mapsRowed_of (allSpec_of Tryz.checked.wellFormed jn_ty)
theorem jn_keys : (false == Tryz.checked.prog.plainKeys) = true := by kernel_rfl
theorem jn_stops : (Tryz.prog.stops == []) = true := by kernel_rfl
theorem jn_knobs : (Tryz.prog.stopKnobs == []) = true := by kernel_rfl
theorem jn_heard : Tryz.prog.stopsHeard = true := by kernel_rfl
theorem jn_enter : Tryz.prog.mayEnter = true := by kernel_rfl
end Go.Proofs.YteifdelnahccjaaGreatDoor
namespace Go.Proofs.YteifdelnahccjaaGreatDoor.fnExactReplicaOK
open Go
set_option linter.unusedVariables false
set_option maxRecDepth 20000
set_option maxHeartbeats 4000000
theorem k1 : (Rows.fnExactReplicaOKRow.inPlace == Tryz.pinned.checked.prog.inPlace 5) = true := by kernel_rfl
theorem k2 : (Rows.fnExactReplicaOKRow.unfollowed == Tryz.pinned.checked.prog.unfollowed 5) = true := by kernel_rfl
theorem k3 : (Rows.fnExactReplicaOKRow.recurses == Tryz.pinned.checked.prog.recurses 5) = true := by kernel_rfl
theorem k4 : (Rows.fnExactReplicaOKRow.named == Tryz.pinned.checked.prog.varsNamed 5) = true := by kernel_rfl
theorem k5 : (Rows.fnExactReplicaOKRow.lifted == Tryz.pinned.checked.prog.liftsFinal) = true := by kernel_rfl
theorem k6 : (Tryz.pinned.checked.prog.make == some Rows.fnExactReplicaOKRow.make) = true := by kernel_rfl
theorem joined : joinedFacts Tryz.pinned.checked.prog 5 Tryz.f5 (OpenSpec.ofChange Rows.fnExactReplicaOKSpec).bare Rows.fnExactReplicaOKRow = true :=
 joined_intro (by kernel_rfl) jn_laid jn_maps (by kernel_rfl) (by kernel_rfl) (by kernel_rfl) jn_stops (by kernel_rfl) jn_knobs k1 k2 k3 k4 (by kernel_rfl) (by kernel_rfl) (by kernel_rfl) (by kernel_rfl) (by kernel_rfl)
  (by kernel_rfl) (by kernel_rfl) (by kernel_rfl) (by kernel_rfl) jn_keys (by kernel_rfl) jn_heard jn_enter k5 k6 (by kernel_rfl) (by kernel_rfl) (by kernel_rfl) (by kernel_rfl)
theorem w1 : Rows.fnExactReplicaOKRow.wfByText (OpenSpec.ofChange Rows.fnExactReplicaOKSpec) = true := by kernel_rfl
theorem w3 : false = Rows.fnExactReplicaOKRow.goesBy Tryz.pinned.checked.prog := by kernel_rfl
theorem w4 : false = Tryz.pinned.checked.prog.looks [] := by kernel_rfl
theorem w5 : Tryz.prog.funcNamed "loop.example/g00292/laws.FnExactReplicaOK" = some 5 := by kernel_rfl
theorem st49 : Tryz.prog.wantsStandIn 49 = false := by kernel_rfl
theorem plain (f : FuncId) (fn : Func) (hf : Tryz.pinned.checked.prog.funcNamed "loop.example/g00292/laws.FnExactReplicaOK" = some f) (hfn : Tryz.pinned.checked.prog.funcs[f]? = some fn) :
  false = Tryz.pinned.checked.prog.looks [] ∧ ∀ (j : Nat) t, fn.params[j]? = some t → Tryz.pinned.checked.prog.wantsStandIn t = false := by
 obtain rfl : f = 5 := Option.some.inj (w5.symm.trans hf) |>.symm
 obtain rfl : fn = Tryz.f5 := (Option.some.inj (Tryz.func5.symm.trans hfn)).symm
 refine ⟨w4, fun j t ht => ?_⟩
 rw [Tryz.params5] at ht
 have hm := Array.mem_of_getElem? ht
 simp only [List.mem_toArray, List.mem_cons, List.not_mem_nil, or_false] at hm
 obtain rfl := hm
 exact st49
end Go.Proofs.YteifdelnahccjaaGreatDoor.fnExactReplicaOK
