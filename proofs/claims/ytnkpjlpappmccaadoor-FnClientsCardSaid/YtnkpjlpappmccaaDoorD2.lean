import Derived.Test.YtnkpjlpappmccaaDoorD1
namespace Go.Proofs.YtnkpjlpappmccaaDoor
open Go.V
set_option linter.unusedVariables false
set_option linter.unusedSimpArgs false
set_option maxRecDepth 20000
set_option maxHeartbeats 4000000

theorem bits_nn (op : BinOp) (a b : Int) : 0 ≤ bits op .u64 a b := by unfold bits; exact Int.natCast_nonneg _
theorem wrap_nn (a : Int) : 0 ≤ IntKind.u64.wrap a := by
  have : IntKind.u64.wrap a = a % (2 ^ 64 : Int) := rfl
  rw [this]; exact Int.emod_nonneg _ (by decide)

theorem p51 (x k : Int) : ∃ y : Int, True ∧ Pure En 51 [.one (.int .u32 x), .one (.int .i64 k)] [.one (.int .u32 y)] := by
  refine Pure.of_wpX Tryd.func51 rfl (Nat.le_of_ble_eq_true rfl) ?_
  refine wSeq ?_
  refine wRegion ?_
  refine raI rfl rfl rfl rfl rfl ?_
  refine rNil ?_
  refine qSeq ?_
  refine wSeq ?_
  refine wRegion ?_
  refine rmI rfl rfl rfl rfl rfl ?_
  refine rcv rfl rfl rfl rfl rfl rfl rfl ?_
  refine rand rfl rfl rfl rfl rfl rfl ?_
  refine raI rfl rfl rfl rfl rfl ?_
  refine rNil ?_
  refine qSeq ?_
  refine wSeq ?_
  refine wRegion ?_
  refine rmI rfl rfl rfl rfl rfl ?_
  refine rmI rfl rfl rfl rfl rfl ?_
  refine rshl rfl rfl rfl ?_ rfl rfl rfl ?_
  · (first | exact bits_nn _ _ _ | exact wrap_nn _)
  refine rmI rfl rfl rfl rfl rfl ?_
  refine rmI rfl rfl rfl rfl rfl ?_
  refine rsub rfl rfl rfl rfl rfl rfl ?_
  refine rshr rfl rfl rfl ?_ rfl rfl rfl ?_
  · (first | exact bits_nn _ _ _ | exact wrap_nn _)
  refine ror rfl rfl rfl rfl rfl rfl ?_
  refine raI rfl rfl rfl rfl rfl ?_
  refine rNil ?_
  refine qSeq ?_
  refine wRet ?_
  exact ⟨_, trivial, fin rfl rfl⟩
theorem p50 (x k : Int) : ∃ y : Int, True ∧ Pure En 50 [.one (.int .u32 x), .one (.int .i64 k)] [.one (.int .u32 y)] := by
  refine Pure.of_wpX Tryd.func50 rfl (Nat.le_of_ble_eq_true rfl) ?_
  refine wSeq ?_
  refine wRegion ?_
  refine raI rfl rfl rfl rfl rfl ?_
  refine rNil ?_
  refine qSeq ?_
  refine wSeq ?_
  refine wRegion ?_
  refine rmI rfl rfl rfl rfl rfl ?_
  refine rmI rfl rfl rfl rfl rfl ?_
  refine rneg rfl rfl rfl rfl rfl ?_
  refine rclX (p51 _ _) rfl rfl rfl rfl rfl rfl ?_
  rintro x1_3 h1_3
  refine raI rfl rfl rfl rfl rfl ?_
  refine rNil ?_
  refine qSeq ?_
  refine wRet ?_
  exact ⟨_, trivial, fin rfl rfl⟩
noncomputable def rot (x k : Int) : Int := Classical.choose (p50 x k)
theorem q50 (x k : Int) : Pure En 50 [.one (.int .u32 x), .one (.int .i64 k)] [.one (.int .u32 (rot x k))] := (Classical.choose_spec (p50 x k)).2

def wV (x : Int) : V := .int .u32 x
theorem splW (L : List Int) (i : Nat) (x : Int) (h : i < L.length) : splice (L.map wV) i [wV x] = (L.set i x).map wV := by
  unfold splice
  rw [List.map_set, List.set_eq_take_append_cons_drop]
  simp [h]
theorem getW {L : List Int} {i : Nat} (h : i < L.length) : (L.map wV)[i]? = some (wV (L.getD i 0)) := mapGet wV 0 h
theorem repW (m : Nat) : (List.replicate m (0 : Int)).map wV = List.replicate m (.int .u32 0) := by simp [wV]
structure W8 where
  a : Int
  b : Int
  c : Int
  d : Int
  e : Int
  f : Int
  g : Int
  h : Int
def W8.T (r : W8) : List T := [.int .u32 r.a, .int .u32 r.b, .int .u32 r.c, .int .u32 r.d, .int .u32 r.e, .int .u32 r.f, .int .u32 r.g, .int .u32 r.h]
def W8.V (r : W8) : List V := [wV r.a, wV r.b, wV r.c, wV r.d, wV r.e, wV r.f, wV r.g, wV r.h]
def bT (b : Int) : List T := [.int .u8 b]
theorem tabGet {k : Nat} (h : k < 64) : (tab.drop k)[0]? = some (.int .u32 (roundW.getD k 0)) := by
  rw [List.getElem?_drop, Nat.add_zero]
  exact mapGet (T.int .u32) 0 (by show k < roundW.length; exact h)
theorem len8 {L : List Int} (h : L.length = 8) : ∃ a b c d e f g i, L = [a, b, c, d, e, f, g, i] := by
  match L, h with
  | [a, b, c, d, e, f, g, i], _ => exact ⟨a, b, c, d, e, f, g, i, rfl⟩

theorem p48 (q : W8) (nn : Bool) (B : List Int) (hB : B.length = 64) : ∃ r : W8, True ∧ Pure En 48 [.agg q.T, .one (.sl nn (B.map bT))] [.agg r.T] := by
  refine Pure.of_wpX Tryd.func48 rfl (Nat.le_of_ble_eq_true rfl) ?_
  refine wSeq ?_
  refine wRegion ?_
  refine rbx (u := .agg [.int _ _, .int _ _, .int _ _, .int _ _, .int _ _, .int _ _, .int _ _, .int _ _]) rfl rfl rfl rfl rfl rfl rfl ?_
  refine ral rfl rfl rfl rfl rfl rfl ?_
  refine rNil ?_
  refine qSeq ?_
  refine wSeq ?_
  refine wRegion ?_
  refine ral rfl rfl rfl rfl rfl rfl ?_
  refine rNil ?_
  refine qSeq ?_
  refine wSeq ?_
  refine wSeq ?_
  refine wRegion ?_
  refine rmI rfl rfl rfl rfl rfl ?_
  refine rNil ?_
  refine qSeq ?_
  refine wBlock ?_
  refine wLoop ?_
  refine loopGo (fun (a : Nat × List Int) => [.unk, .sl false nn (B.map bT), .ptr 0 0 0, .unk, .ptr 1 0 0, .ptr 2 0 0, .unk, .unk, .unk, .unk, .unk, .unk, .unk, .unk, .unk, .unk, .int .i64 a.1]) (fun (a : Nat × List Int) => hp [(0, ⟨[q.V], 8, 88⟩), (1, ⟨[List.replicate 8 (wV 0)], 8, 88⟩), (2, ⟨[a.2.map wV], 64, 91⟩)]) (fun (a : Nat × List Int) => 3) (fun (a : Nat × List Int) => a.1 ≤ 16 ∧ a.2.length = 64) (fun (a : Nat × List Int) => 16 - a.1) (0, List.replicate 64 0) ?_ ?_ ?_ ?_ ?_
  · exact ⟨Nat.zero_le _, rfl⟩
  · (repeat first | exact LE.nil _ | refine LE.unk _ _ ?_ | refine LE.eq _ _ _ rfl ?_)
  · (repeat first | exact lessH0 | (refine lessHc ?_ ?_; (first | (first | rfl | assumption | ((simp (disch := omega) only [app, upd, hp, if_pos, if_neg]); first | rfl | assumption)) | fail)))
  · exact Nat.le_refl _
  intro ⟨i, L⟩ hI ih
  dsimp only at hI ⊢
  refine lStep ?_
  refine wSeq ?_
  refine wRegion ?_
  refine rlt rfl rfl rfl rfl rfl rfl ?_ ?_ <;> intro h3_0
  · refine rNil ?_
    refine qSeq ?_
    refine wSeq ?_
    refine wT rfl ?_
    refine wSkip ?_
    refine qSeq ?_
    refine wSeq ?_
    refine wBlock ?_
    refine wSeq ?_
    refine wRegion ?_
    refine rmI rfl rfl rfl rfl rfl ?_
    refine raI rfl rfl rfl rfl rfl ?_
    refine rNil ?_
    refine qSeq ?_
    refine wDraw [0, 0, 0, 4, 14, 30, 62, 126, 0, 0, 512, 1536, 3840, 7936, 16128, 32512, 65534, 0, 0, 262144, 786432, 1966080, 4063232, 8257536, 16646144, 33554430, 0, 0, 134217728, 402653184, 1006632960, 2080374784, 4227858432, 8589934590, 17179869183, 34359738367] rfl (by decide +kernel) ?_
    refine dmI rfl rfl rfl rfl rfl ?_
    refine dmL rfl rfl rfl rfl rfl ?_
    refine dmI rfl rfl rfl rfl rfl ?_
    refine dmulF rfl rfl rfl ?_ ?_ rfl rfl rfl ?_
    · (first | omega | assumption | (focus (simp; omega)))
    · (first | omega | assumption | (focus (simp; omega)))
    (apply dixl rfl rfl rfl rfl; (first | omega | assumption | (focus (simp; omega))); (first | rfl | assumption | (exact mapGet bT 0 (by omega))); rfl; rfl; rfl; rfl)
    refine dlic (v := .int _ _) rfl rfl rfl rfl rfl rfl rfl rfl ?_
    refine dcv rfl rfl rfl rfl rfl rfl rfl ?_
    refine dshl rfl rfl rfl ?_ rfl rfl rfl ?_
    · (first | omega | assumption | (focus (simp; omega)))
    refine dmL rfl rfl rfl rfl rfl ?_
    refine dmI rfl rfl rfl rfl rfl ?_
    refine dmulF rfl rfl rfl ?_ ?_ rfl rfl rfl ?_
    · (first | omega | assumption | (focus (simp; omega)))
    · (first | omega | assumption | (focus (simp; omega)))
    refine daddF rfl rfl rfl ?_ ?_ rfl rfl rfl ?_
    · (first | omega | assumption | (focus (simp; omega)))
    · (first | omega | assumption | (focus (simp; omega)))
    (apply dixl rfl rfl rfl rfl; (first | omega | assumption | (focus (simp; omega))); (first | rfl | assumption | (exact mapGet bT 0 (by omega))); rfl; rfl; rfl; rfl)
    refine dlic (v := .int _ _) rfl rfl rfl rfl rfl rfl rfl rfl ?_
    refine dcv rfl rfl rfl rfl rfl rfl rfl ?_
    refine dshl rfl rfl rfl ?_ rfl rfl rfl ?_
    · (first | omega | assumption | (focus (simp; omega)))
    refine dor rfl rfl rfl rfl rfl rfl ?_
    refine dmL rfl rfl rfl rfl rfl ?_
    refine dmI rfl rfl rfl rfl rfl ?_
    refine dmulF rfl rfl rfl ?_ ?_ rfl rfl rfl ?_
    · (first | omega | assumption | (focus (simp; omega)))
    · (first | omega | assumption | (focus (simp; omega)))
    refine daddF rfl rfl rfl ?_ ?_ rfl rfl rfl ?_
    · (first | omega | assumption | (focus (simp; omega)))
    · (first | omega | assumption | (focus (simp; omega)))
    (apply dixl rfl rfl rfl rfl; (first | omega | assumption | (focus (simp; omega))); (first | rfl | assumption | (exact mapGet bT 0 (by omega))); rfl; rfl; rfl; rfl)
    refine dlic (v := .int _ _) rfl rfl rfl rfl rfl rfl rfl rfl ?_
    refine dcv rfl rfl rfl rfl rfl rfl rfl ?_
    refine dshl rfl rfl rfl ?_ rfl rfl rfl ?_
    · (first | omega | assumption | (focus (simp; omega)))
    refine dor rfl rfl rfl rfl rfl rfl ?_
    refine dmL rfl rfl rfl rfl rfl ?_
    refine dmI rfl rfl rfl rfl rfl ?_
    refine dmulF rfl rfl rfl ?_ ?_ rfl rfl rfl ?_
    · (first | omega | assumption | (focus (simp; omega)))
    · (first | omega | assumption | (focus (simp; omega)))
    refine daddF rfl rfl rfl ?_ ?_ rfl rfl rfl ?_
    · (first | omega | assumption | (focus (simp; omega)))
    · (first | omega | assumption | (focus (simp; omega)))
    (apply dixl rfl rfl rfl rfl; (first | omega | assumption | (focus (simp; omega))); (first | rfl | assumption | (exact mapGet bT 0 (by omega))); rfl; rfl; rfl; rfl)
    refine dlic (v := .int _ _) rfl rfl rfl rfl rfl rfl rfl rfl ?_
    refine dcv rfl rfl rfl rfl rfl rfl rfl ?_
    refine dor rfl rfl rfl rfl rfl rfl ?_
    (refine dixA (c := 64) (s := 1) rfl rfl rfl rfl ?_ ?_ rfl rfl rfl ?_; (first | omega | assumption | (focus (simp; omega))); (first | omega | assumption | (focus (simp; omega))))
    (refine dst rfl rfl rfl rfl rfl rfl rfl rfl rfl ?_ (splW _ _ _ ?_) rfl rfl ?_; (show _ + 1 ≤ _; rw [List.length_map]; first | omega | (show _ + 1 ≤ 8; omega)); first | omega | (show _ < 8; omega))
    refine dNilR 36 [3, 0, 0, 0, 0, 0, 0, 0, 0, 0, 0, 0, 0, 0, 0, 0, 0, 0, 0, 0, 0, 0, 0, 0, 0, 0, 0, 0, 0, 0, 0, 0, 0, 0, 0, 0] [] rfl rfl (by decide +kernel) trivial ?_
    refine qBlock ?_
    refine qSeq ?_
    refine wRegion ?_
    refine raddF rfl rfl rfl ?_ ?_ rfl rfl rfl ?_
    · (first | omega | assumption | (focus (simp; omega)))
    · (first | omega | assumption | (focus (simp; omega)))
    refine rmI rfl rfl rfl rfl rfl ?_
    refine rNil ?_
    refine qLoop ?_
    exact wlH (ih (i + 1, L.set _ _) ⟨by dsimp only; omega, List.length_set.trans hI.2⟩ (by dsimp only; omega)) (by (repeat first | exact LE.nil _ | refine LE.unk _ _ ?_ | refine LE.eq _ _ _ rfl ?_)) (by (repeat first | exact lessH0 | (refine lessHc ?_ ?_; (first | (first | rfl | assumption | ((simp (disch := omega) only [app, upd, hp, if_pos, if_neg]); first | rfl | assumption)) | fail)))) (Nat.le_refl _)
  · refine rNil ?_
    refine qSeq ?_
    refine wSeq ?_
    refine wF rfl ?_
    refine wExit ?_
    refine qSeqX ?_
    refine qLoopX ?_
    refine qBlockX ?_
    refine qSeq ?_
    refine wSeq ?_
    refine wSeq ?_
    refine wRegion ?_
    refine raI rfl rfl rfl rfl rfl ?_
    refine rNil ?_
    refine qSeq ?_
    refine wBlock ?_
    refine wLoop ?_
    refine loopGo (fun (a : Nat × List Int) => [.unk, .unk, .ptr 0 0 0, .unk, .ptr 1 0 0, .ptr 2 0 0, .unk, .int .i64 a.1]) (fun (a : Nat × List Int) => hp [(0, ⟨[q.V], 8, 88⟩), (1, ⟨[List.replicate 8 (wV 0)], 8, 88⟩), (2, ⟨[a.2.map wV], 64, 91⟩)]) (fun (a : Nat × List Int) => 3) (fun (a : Nat × List Int) => 16 ≤ a.1 ∧ a.1 ≤ 64 ∧ a.2.length = 64) (fun (a : Nat × List Int) => 64 - a.1) (16, L) ?_ ?_ ?_ ?_ ?_
    · exact ⟨Nat.le_refl _, by dsimp only; omega, hI.2⟩
    · (repeat first | exact LE.nil _ | refine LE.unk _ _ ?_ | refine LE.eq _ _ _ rfl ?_)
    · (repeat first | exact lessH0 | (refine lessHc ?_ ?_; (first | (first | rfl | assumption | ((simp (disch := omega) only [app, upd, hp, if_pos, if_neg]); first | rfl | assumption)) | fail)))
    · exact Nat.le_refl _
    intro ⟨i, L⟩ hI ih
    dsimp only at hI ⊢
    refine lStep ?_
    refine wSeq ?_
    refine wSeq ?_
    refine wRegion ?_
    refine rmI rfl rfl rfl rfl rfl ?_
    refine rlt rfl rfl rfl rfl rfl rfl ?_ ?_ <;> intro h8_1
    · refine rNil ?_
      refine qSeq ?_
      refine wT rfl ?_
      refine wSkip ?_
      refine qSeq ?_
      refine wSeq ?_
      refine wBlock ?_
      refine wSeq ?_
      refine wDraw [0, 1, 3, 7, 0, 16, 48, 112, 15, 511] rfl (by decide +kernel) ?_
      refine dmI rfl rfl rfl rfl rfl ?_
      refine dsubF rfl rfl rfl ?_ ?_ rfl rfl rfl ?_
      · (first | omega | assumption | (focus (simp; omega)))
      · (first | omega | assumption | (focus (simp; omega)))
      (refine dixA (c := 64) (s := 1) rfl rfl rfl rfl ?_ ?_ rfl rfl rfl ?_; (first | omega | assumption | (focus (simp; omega))); (first | omega | assumption | (focus (simp; omega))))
      (apply dlc (v := .int _ _) rfl rfl; (first | rfl | assumption | ((simp (disch := omega) only [app, upd, hp, if_pos, if_neg]); first | rfl | assumption)); rfl; rfl; exact getW (by omega); rfl; rfl; rfl)
      refine dmI rfl rfl rfl rfl rfl ?_
      refine dsubF rfl rfl rfl ?_ ?_ rfl rfl rfl ?_
      · (first | omega | assumption | (focus (simp; omega)))
      · (first | omega | assumption | (focus (simp; omega)))
      (refine dixA (c := 64) (s := 1) rfl rfl rfl rfl ?_ ?_ rfl rfl rfl ?_; (first | omega | assumption | (focus (simp; omega))); (first | omega | assumption | (focus (simp; omega))))
      (apply dlc (v := .int _ _) rfl rfl; (first | rfl | assumption | ((simp (disch := omega) only [app, upd, hp, if_pos, if_neg]); first | rfl | assumption)); rfl; rfl; exact getW (by omega); rfl; rfl; rfl)
      refine daI rfl rfl rfl rfl rfl ?_
      refine daI rfl rfl rfl rfl rfl ?_
      refine dNilR 10 [0, 0, 1, 0, 0, 0, 1, 0, 0, 0] [] rfl rfl (by decide +kernel) trivial ?_
      refine qSeq ?_
      refine wDraw [0, 0, 2, 6, 14, 0, 32, 0, 224, 480, 0, 1024, 4064, 8190, 0, 16384, 49152, 114688, 262142, 0, 524768, 0, 3670496, 7864800, 0, 16777216, 66585056, 134217726, 268435455, 536870911] rfl (by decide +kernel) ?_
      refine dmI rfl rfl rfl rfl rfl ?_
      refine dmI rfl rfl rfl rfl rfl ?_
      refine dsubF rfl rfl rfl ?_ ?_ rfl rfl rfl ?_
      · (first | omega | assumption | (focus (simp; omega)))
      · (first | omega | assumption | (focus (simp; omega)))
      (refine dixA (c := 64) (s := 1) rfl rfl rfl rfl ?_ ?_ rfl rfl rfl ?_; (first | omega | assumption | (focus (simp; omega))); (first | omega | assumption | (focus (simp; omega))))
      (apply dlc (v := .int _ _) rfl rfl; (first | rfl | assumption | ((simp (disch := omega) only [app, upd, hp, if_pos, if_neg]); first | rfl | assumption)); rfl; rfl; exact getW (by omega); rfl; rfl; rfl)
      refine dmI rfl rfl rfl rfl rfl ?_
      refine dcl (q50 _ _) rfl rfl rfl rfl rfl rfl ?_
      refine dmI rfl rfl rfl rfl rfl ?_
      refine dcl (q50 _ _) rfl rfl rfl rfl rfl rfl ?_
      refine dxor rfl rfl rfl rfl rfl rfl ?_
      refine dmI rfl rfl rfl rfl rfl ?_
      refine dshr rfl rfl rfl ?_ rfl rfl rfl ?_
      · (first | omega | assumption | (focus (simp; omega)))
      refine dxor rfl rfl rfl rfl rfl rfl ?_
      refine dadd rfl rfl rfl rfl rfl rfl ?_
      refine dmI rfl rfl rfl rfl rfl ?_
      refine dsubF rfl rfl rfl ?_ ?_ rfl rfl rfl ?_
      · (first | omega | assumption | (focus (simp; omega)))
      · (first | omega | assumption | (focus (simp; omega)))
      (refine dixA (c := 64) (s := 1) rfl rfl rfl rfl ?_ ?_ rfl rfl rfl ?_; (first | omega | assumption | (focus (simp; omega))); (first | omega | assumption | (focus (simp; omega))))
      (apply dlc (v := .int _ _) rfl rfl; (first | rfl | assumption | ((simp (disch := omega) only [app, upd, hp, if_pos, if_neg]); first | rfl | assumption)); rfl; rfl; exact getW (by omega); rfl; rfl; rfl)
      refine dadd rfl rfl rfl rfl rfl rfl ?_
      refine dmI rfl rfl rfl rfl rfl ?_
      refine dcl (q50 _ _) rfl rfl rfl rfl rfl rfl ?_
      refine dmI rfl rfl rfl rfl rfl ?_
      refine dcl (q50 _ _) rfl rfl rfl rfl rfl rfl ?_
      refine dxor rfl rfl rfl rfl rfl rfl ?_
      refine dmI rfl rfl rfl rfl rfl ?_
      refine dshr rfl rfl rfl ?_ rfl rfl rfl ?_
      · (first | omega | assumption | (focus (simp; omega)))
      refine dxor rfl rfl rfl rfl rfl rfl ?_
      refine dadd rfl rfl rfl rfl rfl rfl ?_
      (refine dixA (c := 64) (s := 1) rfl rfl rfl rfl ?_ ?_ rfl rfl rfl ?_; (first | omega | assumption | (focus (simp; omega))); (first | omega | assumption | (focus (simp; omega))))
      (refine dst rfl rfl rfl rfl rfl rfl rfl rfl rfl ?_ (splW _ _ _ ?_) rfl rfl ?_; (show _ + 1 ≤ _; rw [List.length_map]; first | omega | (show _ + 1 ≤ 8; omega)); first | omega | (show _ < 8; omega))
      refine dNilR 30 [3, 0, 0, 0, 0, 0, 0, 0, 0, 0, 0, 0, 1, 0, 0, 0, 0, 0, 0, 0, 0, 0, 0, 0, 0, 1, 0, 0, 0, 0] [] rfl rfl (by decide +kernel) trivial ?_
      refine qBlock ?_
      refine qSeq ?_
      refine wRegion ?_
      refine rmI rfl rfl rfl rfl rfl ?_
      refine raddF rfl rfl rfl ?_ ?_ rfl rfl rfl ?_
      · (first | omega | assumption | (focus (simp; omega)))
      · (first | omega | assumption | (focus (simp; omega)))
      refine raI rfl rfl rfl rfl rfl ?_
      refine rNil ?_
      refine qLoop ?_
      exact wlH (ih (i + 1, L.set _ _) ⟨by dsimp only; omega, by dsimp only; omega, List.length_set.trans hI.2.2⟩ (by dsimp only; omega)) (by (repeat first | exact LE.nil _ | refine LE.unk _ _ ?_ | refine LE.eq _ _ _ rfl ?_)) (by (repeat first | exact lessH0 | (refine lessHc ?_ ?_; (first | (first | rfl | assumption | ((simp (disch := omega) only [app, upd, hp, if_pos, if_neg]); first | rfl | assumption)) | fail)))) (Nat.le_refl _)
    · refine rNil ?_
      refine qSeq ?_
      refine wF rfl ?_
      refine wExit ?_
      refine qSeqX ?_
      refine qLoopX ?_
      refine qBlockX ?_
      refine qSeq ?_
      refine wSeq ?_
      refine wRegion ?_
      refine rlr (vs := [.int _ _, .int _ _, .int _ _, .int _ _, .int _ _, .int _ _, .int _ _, .int _ _]) rfl rfl rfl rfl rfl (Nat.le_of_ble_eq_true rfl) rfl rfl rfl rfl ?_
      refine ral rfl rfl rfl rfl rfl rfl ?_
      refine rst rfl rfl rfl rfl rfl rfl rfl rfl rfl (Nat.le_of_ble_eq_true rfl) rfl rfl rfl ?_
      refine rNil ?_
      refine qSeq ?_
      refine wSeq ?_
      refine wSeq ?_
      refine wRegion ?_
      refine rmI rfl rfl rfl rfl rfl ?_
      refine rNil ?_
      refine qSeq ?_
      refine wBlock ?_
      refine wLoop ?_
      refine loopGo (fun (a : Nat × W8) => [.unk, .unk, .ptr 0 0 0, .unk, .ptr 1 0 0, .ptr 2 0 0, .unk, .unk, .unk, .unk, .ptr 3 0 0, .unk, .unk, .unk, .unk, .unk, .unk, .unk, .unk, .unk, .unk, .unk, .unk, .unk, .unk, .unk, .unk, .unk, .unk, .unk, .unk, .unk, .unk, .unk, .unk, .unk, .unk, .unk, .unk, .unk, .unk, .unk, .unk, .unk, .unk, .unk, .unk, .unk, .unk, .unk, .unk, .unk, .unk, .unk, .unk, .unk, .unk, .unk, .unk, .unk, .unk, .unk, .unk, .unk, .unk, .unk, .unk, .unk, .unk, .unk, .unk, .unk, .unk, .unk, .unk, .unk, .unk, .unk, .unk, .unk, .unk, .unk, .unk, .unk, .unk, .unk, .unk, .unk, .unk, .unk, .unk, .unk, .unk, .unk, .unk, .unk, .unk, .int .i64 a.1]) (fun (a : Nat × W8) => hp [(0, ⟨[q.V], 8, 88⟩), (1, ⟨[List.replicate 8 (wV 0)], 8, 88⟩), (2, ⟨[L.map wV], 64, 91⟩), (3, ⟨[a.2.V], 8, 88⟩)]) (fun (a : Nat × W8) => 4) (fun (a : Nat × W8) => a.1 ≤ 64) (fun (a : Nat × W8) => 64 - a.1) (0, q) ?_ ?_ ?_ ?_ ?_
      · exact Nat.zero_le _
      · (repeat first | exact LE.nil _ | refine LE.unk _ _ ?_ | refine LE.eq _ _ _ rfl ?_)
      · (repeat first | exact lessH0 | (refine lessHc ?_ ?_; (first | (first | rfl | assumption | ((simp (disch := omega) only [app, upd, hp, if_pos, if_neg]); first | rfl | assumption)) | fail)))
      · exact Nat.le_refl _
      intro ⟨i, r⟩ hI ih
      dsimp only at hI ⊢
      refine lStep ?_
      refine wSeq ?_
      refine wRegion ?_
      refine rlt rfl rfl rfl rfl rfl rfl ?_ ?_ <;> intro h14_0
      · refine rNil ?_
        refine qSeq ?_
        refine wSeq ?_
        refine wT rfl ?_
        refine wSkip ?_
        refine qSeq ?_
        refine wSeq ?_
        refine wBlock ?_
        refine wSeq ?_
        refine wRegion ?_
        refine rmI rfl rfl rfl rfl rfl ?_
        refine raI rfl rfl rfl rfl rfl ?_
        refine rNil ?_
        refine qSeq ?_
        refine wSeq ?_
        refine wRegion ?_
        (refine rixA (c := 8) (s := 1) rfl rfl rfl rfl ?_ ?_ rfl rfl rfl ?_; (first | omega | assumption | (focus (simp; omega))); (first | omega | assumption | (focus (simp; omega))))
        refine rlc (v := .int _ _) rfl rfl rfl rfl rfl rfl rfl rfl rfl ?_
        refine raI rfl rfl rfl rfl rfl ?_
        refine rNil ?_
        refine qSeq ?_
        refine wSeq ?_
        refine wDraw [0, 1, 0, 4, 0, 28, 60, 0, 188, 508, 1023, 0, 0, 4096, 14336, 0, 32768, 0, 131072, 491520, 1046528, 2097151, 0, 4194304, 12582912, 33554431, 0, 67108864, 201326592, 536870911, 1073741823] rfl (by decide +kernel) ?_
        (refine dixA (c := 8) (s := 1) rfl rfl rfl rfl ?_ ?_ rfl rfl rfl ?_; (first | omega | assumption | (focus (simp; omega))); (first | omega | assumption | (focus (simp; omega))))
        refine dlc (v := .int _ _) rfl rfl rfl rfl rfl rfl rfl rfl rfl ?_
        refine dmI rfl rfl rfl rfl rfl ?_
        refine dcl (q50 _ _) rfl rfl rfl rfl rfl rfl ?_
        refine dmI rfl rfl rfl rfl rfl ?_
        refine dcl (q50 _ _) rfl rfl rfl rfl rfl rfl ?_
        refine dxor rfl rfl rfl rfl rfl rfl ?_
        refine dmI rfl rfl rfl rfl rfl ?_
        refine dcl (q50 _ _) rfl rfl rfl rfl rfl rfl ?_
        refine dxor rfl rfl rfl rfl rfl rfl ?_
        refine dadd rfl rfl rfl rfl rfl rfl ?_
        refine dmI rfl rfl rfl rfl rfl ?_
        (refine dixA (c := 8) (s := 1) rfl rfl rfl rfl ?_ ?_ rfl rfl rfl ?_; (first | omega | assumption | (focus (simp; omega))); (first | omega | assumption | (focus (simp; omega))))
        refine dlc (v := .int _ _) rfl rfl rfl rfl rfl rfl rfl rfl rfl ?_
        refine dand rfl rfl rfl rfl rfl rfl ?_
        refine dmI rfl rfl rfl rfl rfl ?_
        refine dcpl rfl rfl rfl rfl rfl ?_
        (refine dixA (c := 8) (s := 1) rfl rfl rfl rfl ?_ ?_ rfl rfl rfl ?_; (first | omega | assumption | (focus (simp; omega))); (first | omega | assumption | (focus (simp; omega))))
        refine dlc (v := .int _ _) rfl rfl rfl rfl rfl rfl rfl rfl rfl ?_
        refine dand rfl rfl rfl rfl rfl rfl ?_
        refine dor rfl rfl rfl rfl rfl rfl ?_
        refine dadd rfl rfl rfl rfl rfl rfl ?_
        refine dmI rfl rfl rfl rfl rfl ?_
        (refine dixAi (c := 64) (s := 1) rfl rfl rfl rfl ?_ ?_ rfl rfl rfl rfl ?_; (first | omega | assumption | (focus (simp; omega))); (first | omega | assumption | (focus (simp; omega))))
        (apply dlic (v := .int _ _) rfl rfl rfl; exact tabGet (by omega); rfl; rfl; rfl; rfl)
        refine dadd rfl rfl rfl rfl rfl rfl ?_
        refine dmI rfl rfl rfl rfl rfl ?_
        (refine dixA (c := 64) (s := 1) rfl rfl rfl rfl ?_ ?_ rfl rfl rfl ?_; (first | omega | assumption | (focus (simp; omega))); (first | omega | assumption | (focus (simp; omega))))
        (apply dlc (v := .int _ _) rfl rfl; (first | rfl | assumption | ((simp (disch := omega) only [app, upd, hp, if_pos, if_neg]); first | rfl | assumption)); rfl; rfl; exact getW (by omega); rfl; rfl; rfl)
        refine dadd rfl rfl rfl rfl rfl rfl ?_
        refine daI rfl rfl rfl rfl rfl ?_
        refine dNilR 31 [0, 0, 1, 0, 0, 0, 0, 0, 0, 0, 0, 0, 1, 0, 0, 0, 0, 1, 0, 0, 0, 0, 0, 0, 0, 0, 0, 0, 0, 1, 0] [] rfl rfl (by decide +kernel) trivial ?_
        refine qSeq ?_
        refine wSeq ?_
        refine wDraw [0, 1, 3, 0, 8, 31, 63, 0, 128, 447, 1023, 0, 2048, 0, 8192, 30720, 0, 65536, 0, 262144, 983040, 2095104, 0, 4194304, 0, 16777216, 62914560, 134215680, 268435455, 536870911] rfl (by decide +kernel) ?_
        (refine dixA (c := 8) (s := 1) rfl rfl rfl rfl ?_ ?_ rfl rfl rfl ?_; (first | omega | assumption | (focus (simp; omega))); (first | omega | assumption | (focus (simp; omega))))
        refine dlc (v := .int _ _) rfl rfl rfl rfl rfl rfl rfl rfl rfl ?_
        refine dcl (q50 _ _) rfl rfl rfl rfl rfl rfl ?_
        (refine dixA (c := 8) (s := 1) rfl rfl rfl rfl ?_ ?_ rfl rfl rfl ?_; (first | omega | assumption | (focus (simp; omega))); (first | omega | assumption | (focus (simp; omega))))
        refine dlc (v := .int _ _) rfl rfl rfl rfl rfl rfl rfl rfl rfl ?_
        refine dcl (q50 _ _) rfl rfl rfl rfl rfl rfl ?_
        refine dxor rfl rfl rfl rfl rfl rfl ?_
        (refine dixA (c := 8) (s := 1) rfl rfl rfl rfl ?_ ?_ rfl rfl rfl ?_; (first | omega | assumption | (focus (simp; omega))); (first | omega | assumption | (focus (simp; omega))))
        refine dlc (v := .int _ _) rfl rfl rfl rfl rfl rfl rfl rfl rfl ?_
        refine dcl (q50 _ _) rfl rfl rfl rfl rfl rfl ?_
        refine dxor rfl rfl rfl rfl rfl rfl ?_
        (refine dixA (c := 8) (s := 1) rfl rfl rfl rfl ?_ ?_ rfl rfl rfl ?_; (first | omega | assumption | (focus (simp; omega))); (first | omega | assumption | (focus (simp; omega))))
        refine dlc (v := .int _ _) rfl rfl rfl rfl rfl rfl rfl rfl rfl ?_
        (refine dixA (c := 8) (s := 1) rfl rfl rfl rfl ?_ ?_ rfl rfl rfl ?_; (first | omega | assumption | (focus (simp; omega))); (first | omega | assumption | (focus (simp; omega))))
        refine dlc (v := .int _ _) rfl rfl rfl rfl rfl rfl rfl rfl rfl ?_
        refine dand rfl rfl rfl rfl rfl rfl ?_
        (refine dixA (c := 8) (s := 1) rfl rfl rfl rfl ?_ ?_ rfl rfl rfl ?_; (first | omega | assumption | (focus (simp; omega))); (first | omega | assumption | (focus (simp; omega))))
        refine dlc (v := .int _ _) rfl rfl rfl rfl rfl rfl rfl rfl rfl ?_
        (refine dixA (c := 8) (s := 1) rfl rfl rfl rfl ?_ ?_ rfl rfl rfl ?_; (first | omega | assumption | (focus (simp; omega))); (first | omega | assumption | (focus (simp; omega))))
        refine dlc (v := .int _ _) rfl rfl rfl rfl rfl rfl rfl rfl rfl ?_
        refine dand rfl rfl rfl rfl rfl rfl ?_
        refine dxor rfl rfl rfl rfl rfl rfl ?_
        (refine dixA (c := 8) (s := 1) rfl rfl rfl rfl ?_ ?_ rfl rfl rfl ?_; (first | omega | assumption | (focus (simp; omega))); (first | omega | assumption | (focus (simp; omega))))
        refine dlc (v := .int _ _) rfl rfl rfl rfl rfl rfl rfl rfl rfl ?_
        (refine dixA (c := 8) (s := 1) rfl rfl rfl rfl ?_ ?_ rfl rfl rfl ?_; (first | omega | assumption | (focus (simp; omega))); (first | omega | assumption | (focus (simp; omega))))
        refine dlc (v := .int _ _) rfl rfl rfl rfl rfl rfl rfl rfl rfl ?_
        refine dand rfl rfl rfl rfl rfl rfl ?_
        refine dxor rfl rfl rfl rfl rfl rfl ?_
        refine dadd rfl rfl rfl rfl rfl rfl ?_
        refine daI rfl rfl rfl rfl rfl ?_
        refine dNilR 30 [0, 0, 0, 0, 1, 0, 1, 0, 0, 0, 1, 0, 1, 0, 0, 1, 0, 1, 0, 0, 0, 1, 0, 0, 0, 1, 0, 0, 1, 0] [] rfl rfl (by decide +kernel) trivial ?_
        refine qSeq ?_
        refine wRegion ?_
        refine rmI rfl rfl rfl rfl rfl ?_
        refine rmI rfl rfl rfl rfl rfl ?_
        refine radd rfl rfl rfl rfl rfl rfl ?_
        (refine rixA (c := 8) (s := 1) rfl rfl rfl rfl ?_ ?_ rfl rfl rfl ?_; (first | omega | assumption | (focus (simp; omega))); (first | omega | assumption | (focus (simp; omega))))
        refine rlc (v := .int _ _) rfl rfl rfl rfl rfl rfl rfl rfl rfl ?_
        (refine rixA (c := 8) (s := 1) rfl rfl rfl rfl ?_ ?_ rfl rfl rfl ?_; (first | omega | assumption | (focus (simp; omega))); (first | omega | assumption | (focus (simp; omega))))
        refine rlc (v := .int _ _) rfl rfl rfl rfl rfl rfl rfl rfl rfl ?_
        (refine rixA (c := 8) (s := 1) rfl rfl rfl rfl ?_ ?_ rfl rfl rfl ?_; (first | omega | assumption | (focus (simp; omega))); (first | omega | assumption | (focus (simp; omega))))
        refine rlc (v := .int _ _) rfl rfl rfl rfl rfl rfl rfl rfl rfl ?_
        (refine rixA (c := 8) (s := 1) rfl rfl rfl rfl ?_ ?_ rfl rfl rfl ?_; (first | omega | assumption | (focus (simp; omega))); (first | omega | assumption | (focus (simp; omega))))
        refine rlc (v := .int _ _) rfl rfl rfl rfl rfl rfl rfl rfl rfl ?_
        refine rmI rfl rfl rfl rfl rfl ?_
        refine radd rfl rfl rfl rfl rfl rfl ?_
        (refine rixA (c := 8) (s := 1) rfl rfl rfl rfl ?_ ?_ rfl rfl rfl ?_; (first | omega | assumption | (focus (simp; omega))); (first | omega | assumption | (focus (simp; omega))))
        refine rlc (v := .int _ _) rfl rfl rfl rfl rfl rfl rfl rfl rfl ?_
        (refine rixA (c := 8) (s := 1) rfl rfl rfl rfl ?_ ?_ rfl rfl rfl ?_; (first | omega | assumption | (focus (simp; omega))); (first | omega | assumption | (focus (simp; omega))))
        refine rlc (v := .int _ _) rfl rfl rfl rfl rfl rfl rfl rfl rfl ?_
        (refine rixA (c := 8) (s := 1) rfl rfl rfl rfl ?_ ?_ rfl rfl rfl ?_; (first | omega | assumption | (focus (simp; omega))); (first | omega | assumption | (focus (simp; omega))))
        refine rlc (v := .int _ _) rfl rfl rfl rfl rfl rfl rfl rfl rfl ?_
        refine rbd (cs := [.int _ _, .int _ _, .int _ _, .int _ _, .int _ _, .int _ _, .int _ _, .int _ _]) rfl rfl rfl rfl rfl ?_
        refine rst rfl rfl rfl rfl rfl rfl rfl rfl rfl (Nat.le_of_ble_eq_true rfl) rfl rfl rfl ?_
        refine rNil ?_
        refine qBlock ?_
        refine qSeq ?_
        refine wRegion ?_
        refine raddF rfl rfl rfl ?_ ?_ rfl rfl rfl ?_
        · (first | omega | assumption | (focus (simp; omega)))
        · (first | omega | assumption | (focus (simp; omega)))
        refine rmI rfl rfl rfl rfl rfl ?_
        refine rNil ?_
        refine qLoop ?_
        exact wlH (ih (i + 1, ⟨_, _, _, _, _, _, _, _⟩) (by dsimp only; omega) (by dsimp only; omega)) (by (repeat first | exact LE.nil _ | refine LE.unk _ _ ?_ | refine LE.eq _ _ _ rfl ?_)) (by (repeat first | exact lessH0 | (refine lessHc ?_ ?_; (first | (first | rfl | assumption | ((simp (disch := omega) only [app, upd, hp, if_pos, if_neg]); first | rfl | assumption)) | fail)))) (Nat.le_refl _)
      · refine rNil ?_
        refine qSeq ?_
        refine wSeq ?_
        refine wF rfl ?_
        refine wExit ?_
        refine qSeqX ?_
        refine qLoopX ?_
        refine qBlockX ?_
        refine qSeq ?_
        refine wSeq ?_
        refine wSeq ?_
        refine wRegion ?_
        refine rmI rfl rfl rfl rfl rfl ?_
        refine rNil ?_
        refine qSeq ?_
        refine wBlock ?_
        refine wLoop ?_
        refine loopGo (fun (a : Nat × List Int) => [.unk, .unk, .ptr 0 0 0, .unk, .ptr 1 0 0, .unk, .unk, .unk, .unk, .unk, .ptr 3 0 0, .unk, .unk, .unk, .unk, .unk, .unk, .unk, .unk, .unk, .unk, .unk, .unk, .unk, .unk, .unk, .unk, .unk, .unk, .unk, .unk, .unk, .unk, .unk, .unk, .unk, .unk, .unk, .unk, .unk, .unk, .unk, .unk, .unk, .unk, .unk, .unk, .unk, .unk, .unk, .unk, .unk, .unk, .unk, .unk, .unk, .unk, .unk, .unk, .unk, .unk, .unk, .unk, .unk, .unk, .unk, .unk, .unk, .unk, .unk, .unk, .unk, .unk, .unk, .unk, .unk, .unk, .unk, .unk, .unk, .unk, .unk, .unk, .unk, .unk, .unk, .unk, .unk, .unk, .unk, .unk, .unk, .unk, .unk, .unk, .unk, .unk, .unk, .unk, .unk, .unk, .unk, .unk, .unk, .unk, .unk, .unk, .unk, .unk, .unk, .unk, .unk, .unk, .unk, .unk, .unk, .unk, .unk, .unk, .unk, .unk, .unk, .unk, .unk, .unk, .unk, .unk, .unk, .unk, .unk, .unk, .unk, .unk, .unk, .unk, .unk, .unk, .unk, .unk, .unk, .unk, .unk, .unk, .unk, .unk, .unk, .unk, .unk, .unk, .unk, .unk, .unk, .unk, .unk, .unk, .unk, .unk, .unk, .unk, .unk, .unk, .unk, .unk, .unk, .unk, .unk, .unk, .unk, .unk, .unk, .unk, .unk, .unk, .unk, .unk, .unk, .unk, .unk, .unk, .unk, .unk, .unk, .int .i64 a.1]) (fun (a : Nat × List Int) => hp [(0, ⟨[a.2.map wV], 8, 88⟩), (1, ⟨[List.replicate 8 (wV 0)], 8, 88⟩), (3, ⟨[[r.a, r.b, r.c, r.d, r.e, r.f, r.g, r.h].map wV], 8, 88⟩)]) (fun (a : Nat × List Int) => 4) (fun (a : Nat × List Int) => a.1 ≤ 8 ∧ a.2.length = 8) (fun (a : Nat × List Int) => 8 - a.1) (0, [q.a, q.b, q.c, q.d, q.e, q.f, q.g, q.h]) ?_ ?_ ?_ ?_ ?_
        · exact ⟨Nat.zero_le _, rfl⟩
        · (repeat first | exact LE.nil _ | refine LE.unk _ _ ?_ | refine LE.eq _ _ _ rfl ?_)
        · (repeat first | exact lessH0 | (refine lessHc ?_ ?_; (first | (first | rfl | assumption | ((simp (disch := omega) only [app, upd, hp, if_pos, if_neg]); first | rfl | assumption)) | fail)))
        · exact Nat.le_refl _
        intro ⟨i, L8⟩ hI ih
        dsimp only at hI ⊢
        obtain ⟨x0, x1, x2, x3, x4, x5, x6, x7, rfl⟩ := len8 hI.2
        have h8 : i ≤ 8 := hI.1
        refine lStep ?_
        refine wSeq ?_
        refine wRegion ?_
        refine rlt rfl rfl rfl rfl rfl rfl ?_ ?_ <;> intro h22_0
        · refine rNil ?_
          refine qSeq ?_
          refine wSeq ?_
          refine wT rfl ?_
          refine wSkip ?_
          refine qSeq ?_
          refine wSeq ?_
          refine wBlock ?_
          refine wSeq ?_
          refine wRegion ?_
          refine rmI rfl rfl rfl rfl rfl ?_
          refine raI rfl rfl rfl rfl rfl ?_
          refine rNil ?_
          refine qSeq ?_
          refine wDraw [0, 1, 3, 0, 8, 24, 63, 127, 255] rfl (by decide +kernel) ?_
          refine dmI rfl rfl rfl rfl rfl ?_
          (refine dixA (c := 8) (s := 1) rfl rfl rfl rfl ?_ ?_ rfl rfl rfl ?_; (first | omega | assumption | (focus (simp; omega))); (first | omega | assumption | (focus (simp; omega))))
          (apply dlc (v := .int _ _) rfl rfl; (first | rfl | assumption | ((simp (disch := omega) only [app, upd, hp, if_pos, if_neg]); first | rfl | assumption)); rfl; rfl; exact getW (by first | omega | (show _ < 8; omega)); rfl; rfl; rfl)
          refine dmI rfl rfl rfl rfl rfl ?_
          (refine dixA (c := 8) (s := 1) rfl rfl rfl rfl ?_ ?_ rfl rfl rfl ?_; (first | omega | assumption | (focus (simp; omega))); (first | omega | assumption | (focus (simp; omega))))
          (apply dlc (v := .int _ _) rfl rfl; (first | rfl | assumption | ((simp (disch := omega) only [app, upd, hp, if_pos, if_neg]); first | rfl | assumption)); rfl; rfl; exact getW (by first | omega | (show _ < 8; omega)); rfl; rfl; rfl)
          refine dadd rfl rfl rfl rfl rfl rfl ?_
          (refine dixA (c := 8) (s := 1) rfl rfl rfl rfl ?_ ?_ rfl rfl rfl ?_; (first | omega | assumption | (focus (simp; omega))); (first | omega | assumption | (focus (simp; omega))))
          (refine dst rfl rfl rfl rfl rfl rfl rfl rfl rfl ?_ (splW _ _ _ ?_) rfl rfl ?_; (show _ + 1 ≤ _; rw [List.length_map]; first | omega | (show _ + 1 ≤ 8; omega)); first | omega | (show _ < 8; omega))
          refine dNilR 9 [3, 0, 0, 1, 0, 0, 1, 0, 0] [] rfl rfl (by decide +kernel) trivial ?_
          refine qBlock ?_
          refine qSeq ?_
          refine wRegion ?_
          refine raddF rfl rfl rfl ?_ ?_ rfl rfl rfl ?_
          · (first | omega | assumption | (focus (simp; omega)))
          · (first | omega | assumption | (focus (simp; omega)))
          refine rmI rfl rfl rfl rfl rfl ?_
          refine rNil ?_
          refine qLoop ?_
          exact wlH (ih (i + 1, List.set [x0, x1, x2, x3, x4, x5, x6, x7] _ _) ⟨by dsimp only; omega, List.length_set⟩ (by dsimp only; omega)) (by (repeat first | exact LE.nil _ | refine LE.unk _ _ ?_ | refine LE.eq _ _ _ rfl ?_)) (by (repeat first | exact lessH0 | (refine lessHc ?_ ?_; (first | (first | rfl | assumption | ((simp (disch := omega) only [app, upd, hp, if_pos, if_neg]); first | rfl | assumption)) | fail)))) (Nat.le_refl _)
        · refine rNil ?_
          refine qSeq ?_
          refine wSeq ?_
          refine wF rfl ?_
          refine wExit ?_
          refine qSeqX ?_
          refine qLoopX ?_
          refine qBlockX ?_
          refine qSeq ?_
          refine wSeq ?_
          refine wRegion ?_
          refine rlr (vs := [.int _ _, .int _ _, .int _ _, .int _ _, .int _ _, .int _ _, .int _ _, .int _ _]) rfl rfl rfl rfl rfl (Nat.le_of_ble_eq_true rfl) rfl rfl rfl rfl ?_
          refine rst rfl rfl rfl rfl rfl rfl rfl rfl rfl (Nat.le_of_ble_eq_true rfl) rfl rfl rfl ?_
          refine rNil ?_
          refine qSeq ?_
          refine wRet ?_
          exact ⟨⟨x0, x1, x2, x3, x4, x5, x6, x7⟩, trivial, fin rfl rfl⟩
end Go.Proofs.YtnkpjlpappmccaaDoor
