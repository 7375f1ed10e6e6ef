import Derived.Test.YtcafccndgpopkaaDoorD1
namespace Go.Proofs.YtcafccndgpopkaaDoor
open Go.V
set_option linter.unusedVariables false
set_option linter.unusedSimpArgs false
set_option maxRecDepth 20000
set_option maxHeartbeats 4000000

theorem bits_nn (op : BinOp) (a b : Int) : 0 ≤ bits op .u64 a b := by unfold bits; exact Int.natCast_nonneg _
theorem wrap_nn (a : Int) : 0 ≤ IntKind.u64.wrap a := by
  have : IntKind.u64.wrap a = a % (2 ^ 64 : Int) := rfl
  rw [this]; exact Int.emod_nonneg _ (by decide)

theorem p51 (x k : Int) : ∃ y : Int, True ∧ Pure En 136 [.one (.int .u32 x), .one (.int .i64 k)] [.one (.int .u32 y)] := by
  refine Pure.of_wpX Tryd.func136 rfl (Nat.le_of_ble_eq_true rfl) ?_
  refine wSeq ?_
  refine wRegion ?_
  refine raI rfl rfl rfl rfl rfl ?_
  refine rNil ?_
  refine qSeq ?_
  refine wSeq ?_
  refine wRegion ?_
  refine rmI rfl rfl rfl rfl rfl ?_
  refine rcv rfl rfl rfl rfl rfl rfl rfl ?_
  refine rand rfl rfl rfl rfl rfl rfl ?_
  refine raI rfl rfl rfl rfl rfl ?_
  refine rNil ?_
  refine qSeq ?_
  refine wSeq ?_
  refine wRegion ?_
  refine rmI rfl rfl rfl rfl rfl ?_
  refine rmI rfl rfl rfl rfl rfl ?_
  refine rshl rfl rfl rfl ?_ rfl rfl rfl ?_
  · (first | exact bits_nn _ _ _ | exact wrap_nn _)
  refine rmI rfl rfl rfl rfl rfl ?_
  refine rmI rfl rfl rfl rfl rfl ?_
  refine rsub rfl rfl rfl rfl rfl rfl ?_
  refine rshr rfl rfl rfl ?_ rfl rfl rfl ?_
  · (first | exact bits_nn _ _ _ | exact wrap_nn _)
  refine ror rfl rfl rfl rfl rfl rfl ?_
  refine raI rfl rfl rfl rfl rfl ?_
  refine rNil ?_
  refine qSeq ?_
  refine wRet ?_
  exact ⟨_, trivial, fin rfl rfl⟩
theorem p50 (x k : Int) : ∃ y : Int, True ∧ Pure En 128 [.one (.int .u32 x), .one (.int .i64 k)] [.one (.int .u32 y)] := by
  refine Pure.of_wpX Tryd.func128 rfl (Nat.le_of_ble_eq_true rfl) ?_
  refine wSeq ?_
  refine wRegion ?_
  refine raI rfl rfl rfl rfl rfl ?_
  refine rNil ?_
  refine qSeq ?_
  refine wSeq ?_
  refine wRegion ?_
  refine rmI rfl rfl rfl rfl rfl ?_
  refine rmI rfl rfl rfl rfl rfl ?_
  refine rneg rfl rfl rfl rfl rfl ?_
  refine rclX (p51 _ _) rfl rfl rfl rfl rfl rfl ?_
  rintro x1_3 h1_3
  try dsimp only at h1_3
  refine raI rfl rfl rfl rfl rfl ?_
  refine rNil ?_
  refine qSeq ?_
  refine wRet ?_
  exact ⟨_, trivial, fin rfl rfl⟩
noncomputable def rot (x k : Int) : Int := Classical.choose (p50 x k)

def wV (x : Int) : V := .int .u32 x
theorem splW (L : List Int) (i : Nat) (x : Int) (h : i < L.length) : splice (L.map wV) i [wV x] = (L.set i x).map wV := by
  unfold splice
  rw [List.map_set, List.set_eq_take_append_cons_drop]
  simp [h]
theorem getW {L : List Int} {i : Nat} (h : i < L.length) : (L.map wV)[i]? = some (wV (L.getD i 0)) := mapGet wV 0 h
structure W8 where
  a : Int
  b : Int
  c : Int
  d : Int
  e : Int
  f : Int
  g : Int
  h : Int
def W8.T (r : W8) : List T := [.int .u32 r.a, .int .u32 r.b, .int .u32 r.c, .int .u32 r.d, .int .u32 r.e, .int .u32 r.f, .int .u32 r.g, .int .u32 r.h]
def W8.V (r : W8) : List V := [wV r.a, wV r.b, wV r.c, wV r.d, wV r.e, wV r.f, wV r.g, wV r.h]
def bT (b : Int) : List T := [.int .u8 b]
theorem tabGet {k : Nat} (h : k < 64) : (tab.drop k)[0]? = some (.int .u32 (roundW.getD k 0)) := by
  rw [List.getElem?_drop, Nat.add_zero]
  exact mapGet (T.int .u32) 0 (by show k < roundW.length; exact h)
theorem len8 {L : List Int} (h : L.length = 8) : ∃ a b c d e f g i, L = [a, b, c, d, e, f, g, i] := by
  match L, h with
  | [a, b, c, d, e, f, g, i], _ => exact ⟨a, b, c, d, e, f, g, i, rfl⟩

end Go.Proofs.YtcafccndgpopkaaDoor
