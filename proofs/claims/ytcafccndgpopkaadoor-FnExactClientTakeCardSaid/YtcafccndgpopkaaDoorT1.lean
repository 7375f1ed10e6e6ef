import Derived.Test.YtcafccndgpopkaaDoorS3
namespace Go.Proofs.YtcafccndgpopkaaDoor
open Go.V
set_option linter.unusedVariables false
set_option linter.unusedSimpArgs false
set_option maxRecDepth 20000
set_option maxHeartbeats 4000000

/-! spec's side of SHA-256. -/
theorem e127 (x k : Int) (hk : 0 ≤ k ∧ k ≤ 31) : Pure En 127 [.one (.int .u32 x), .one (.int .u64 k)] [.one (.int .u32 (rt x k))] := by
  have h1 : IntKind.u64.wrap (32 - k) = 32 - k := by
    have e : IntKind.u64.wrap (32 - k) = (32 - k) % (2 ^ 64 : Int) := rfl
    have e2 : (2 ^ 64 : Int) = 18446744073709551616 := rfl
    rw [e, e2]; omega
  refine Pure.of_wp Tryd.func127 rfl (Nat.le_of_ble_eq_true rfl) ?_
  refine wSeq ?_
  refine wRegion ?_
  refine raI rfl rfl rfl rfl rfl ?_
  refine rNil ?_
  refine qSeq ?_
  refine wSeq ?_
  refine wRegion ?_
  refine rmI rfl rfl rfl rfl rfl ?_
  refine rmI rfl rfl rfl rfl rfl ?_
  refine rshr rfl rfl rfl ?_ rfl rfl rfl ?_
  · (first | omega | exact wrap_nn _)
  refine rmI rfl rfl rfl rfl rfl ?_
  refine rmI rfl rfl rfl rfl rfl ?_
  refine rsub rfl rfl rfl rfl rfl rfl ?_
  refine rshl rfl rfl rfl ?_ rfl rfl rfl ?_
  · (first | omega | exact wrap_nn _)
  refine ror rfl rfl rfl rfl rfl rfl ?_
  refine raI rfl rfl rfl rfl rfl ?_
  refine rNil ?_
  refine qSeq ?_
  refine wRet ?_
  rw [show rt x k = orb (sr x k) (sl x (IntKind.u64.wrap (32 - k))) by unfold rt; rw [h1, orb_comm]]; exact fin rfl rfl
theorem e117 : Pure En 117 [] [.one (.sl true (roundW.map fun x => [.int .u32 x]))] := by
  refine Pure.of_wp Tryd.func117 rfl (Nat.le_of_ble_eq_true rfl) ?_
  refine wSeq ?_
  refine wRegion ?_
  refine raN rfl rfl rfl rfl rfl ?_
  refine rNil ?_
  refine qSeq ?_
  refine wSeq ?_
  refine wRegion ?_
  refine rbs (es := roundW.map fun x => [V.int .u32 x]) rfl rfl rfl rfl (Nat.succ_ne_zero _) (Nat.le_of_ble_eq_true rfl) rfl rfl rfl rfl rfl ?_
  refine raV rfl rfl rfl rfl rfl ?_
  refine rNil ?_
  refine qSeq ?_
  refine wRet ?_
  exact finS [0] rfl (SnapL.cons _ _ _ _ (.one _ _ (snapView (b := ⟨_, _, _⟩) (roundW.map fun x => [.int .u32 x]) (List.mem_singleton.2 rfl) rfl rfl rfl)) SnapL.nil)
end Go.Proofs.YtcafccndgpopkaaDoor
