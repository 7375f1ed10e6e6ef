import Derived.Test.YtcafccndgpopkaaDoorU6
namespace Go.Proofs.YtcafccndgpopkaaDoor
open Go.V
set_option linter.unusedVariables false
set_option linter.unusedSimpArgs false
set_option maxRecDepth 20000
set_option maxHeartbeats 4000000

/-! Answers as a map's keys. -/
def An.V (a : An) : List V := [.int .i64 a.kd, .int .i64 a.tk, .int .i64 a.hd, .int .i64 a.ex]
theorem len4 {α : Type} {l : List α} (h : l.length = 4) : ∃ a b c d, l = [a, b, c, d] := by
  match l, h with
  | [a, b, c, d], _ => exact ⟨a, b, c, d, rfl⟩
theorem keyL : WideMaps.KeyLaw En.P 42 := deep_law (m := 2) (by decide) (by kernel_rfl) (by kernel_rfl) (by kernel_rfl)
theorem lits3 {d : Nat} {n : Int} (h : -9223372036854775808 ≤ n ∧ n ≤ 9223372036854775807) : En.P.keyLits (d + 1) 3 [.int .i64 n] = some [.int .i64 n] := by
  have hu : En.P.underlying 3 = some (.int .i64) := by kernel_rfl
  have hw : (Lit.int .i64 n).wf = true := by
    simp only [Lit.wf, Bool.and_eq_true, decide_eq_true_eq]
    exact ⟨by have : IntKind.i64.min = -9223372036854775808 := rfl; omega, by have : IntKind.i64.max = 9223372036854775807 := rfl; omega⟩
  unfold Program.keyLits
  rw [hu]
  simp [hw]
theorem keyA (a : An) (h : a.OK) : KeyOK En.P 42 (.agg a.V) := by
  unfold An.OK at h
  refine ⟨.agg #[.int .i64 a.kd, .int .i64 a.tk, .int .i64 a.hd, .int .i64 a.ex], .string (keyBytes [.int .i64 a.kd, .int .i64 a.tk, .int .i64 a.hd, .int .i64 a.ex]), rfl, ?_⟩
  have hu : ∃ fs, En.P.underlying 42 = some (.struct fs) ∧ fs.toList.map (fun f => (f.type, f.offset)) = [(3, 0), (3, 1), (3, 2), (3, 3)] ∧ fs.all (·.name != "_") = true := ⟨En.P.fieldsOf 42, by kernel_rfl, by kernel_rfl, by kernel_rfl⟩
  obtain ⟨fs, hu, hf, hn⟩ := hu
  have hc : En.P.cellsOf 42 = 4 := by kernel_rfl
  have hc3 : En.P.cellsOf 3 = 1 := by kernel_rfl
  have hk : En.P.keyType 42 = true := by kernel_rfl
  have hsz : ∃ m, En.P.types.size = m + 1 := ⟨En.P.types.size - 1, by kernel_rfl⟩
  obtain ⟨m, hm⟩ := hsz
  have hfm : (Value.agg #[.int .i64 a.kd, .int .i64 a.tk, .int .i64 a.hd, .int .i64 a.ex]).formed En.P 42 = true := by
    simp [Value.formed, hu, hc]
  have hl : En.P.keyLits (m + 1 + 1) 42 [.int .i64 a.kd, .int .i64 a.tk, .int .i64 a.hd, .int .i64 a.ex] = some [.int .i64 a.kd, .int .i64 a.tk, .int .i64 a.hd, .int .i64 a.ex] := by
    unfold Program.keyLits
    rw [hu]
    simp only [List.length_cons, List.length_nil, hc, hn, and_self, if_true]
    have : ∀ l : List Field, l.map (fun f => (f.type, f.offset)) = [(3, 0), (3, 1), (3, 2), (3, 3)] → l.mapM (fun f => En.P.keyLits (m + 1) f.type (([Value.int .i64 a.kd, .int .i64 a.tk, .int .i64 a.hd, .int .i64 a.ex].drop f.offset).take (En.P.cellsOf f.type))) = some [[.int .i64 a.kd], [.int .i64 a.tk], [.int .i64 a.hd], [.int .i64 a.ex]] := by
      intro l hl
      obtain ⟨f0, f1, f2, f3, rfl⟩ := len4 (l := l) (by simpa using congrArg List.length hl)
      simp only [List.map_cons, List.map_nil, List.cons.injEq, Prod.mk.injEq, and_true] at hl
      obtain ⟨⟨t0, o0⟩, ⟨t1, o1⟩, ⟨t2, o2⟩, t3, o3⟩ := hl
      simp only [List.mapM_cons, List.mapM_nil, t0, o0, t1, o1, t2, o2, t3, o3, hc3, List.drop_zero, List.take_succ_cons, List.take_zero, List.drop_succ_cons]
      rw [lits3 (by omega), lits3 (by omega), lits3 (by omega), lits3 (by omega)]
      rfl
    rw [this _ hf]
    rfl
  unfold keyOf
  rw [hu]
  simp only [hk, hfm, Bool.and_self, if_true, hm, Value.cells]
  rw [hl]
  rfl
end Go.Proofs.YtcafccndgpopkaaDoor
