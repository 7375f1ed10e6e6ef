import Derived.Test.YtknnniaoboaghaaA10
namespace Go.Proofs.Ytknnniaoboaghaa
open Go.V
set_option linter.unusedVariables false
set_option linter.unusedSimpArgs false
set_option maxRecDepth 20000
set_option maxHeartbeats 4000000

/-! LockAt, on both sides. -/
/-- What LockAt answers. -/
noncomputable def lAt (t : Tb) (s : ByteArray) : Lk × Int := if s.size > 65536 then (Lk0, 2) else if ¬ t.OK then (Lk0, 1) else if ¬ hit s t.lk then (Lk0, 5) else (t.lk.getD (pos s t.lk) Lk0, 0)
theorem OKw {t : Tb} (h : t.OK) {i : Nat} (hi : i < t.lk.length) : (t.lk.getD i Lk0).ws.length ≤ 4 := (h.2.2.2.2.1 i hi).1.2.2.2.2.1
theorem noneW {n : Nat} (id : Nat) (b : Blk) : ¬ app [(n, none)] (fun _ => none) id = some b := by
  simp only [app]
  by_cases h : id = n
  · subst h; rw [upd_same]; nofun
  · rw [upd_ne _ _ h]; nofun
end Go.Proofs.Ytknnniaoboaghaa
