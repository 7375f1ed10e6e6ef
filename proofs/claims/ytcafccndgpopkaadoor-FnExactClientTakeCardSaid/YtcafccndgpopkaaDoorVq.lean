import Derived.Test.YtcafccndgpopkaaDoorVn
import Derived.Test.YtcafccndgpopkaaDoorVo
namespace Go.V
open Go
set_option linter.unusedVariables false
set_option linter.unusedSimpArgs false

/-- Data: no block of the call's own in it. -/
def V.data : V → Bool
  | .bool _ | .int _ _ | .str _ | .nilp | .nilf | .nsl | .sl _ _ _ => true
  | _ => false
/-- No memory that nobody writes in it. -/
def V.flat : V → Bool
  | .bool _ | .int _ _ | .str _ | .nilp | .nilf | .nsl | .view _ _ _ | .ptr _ _ _ => true
  | _ => false
theorem VR.data {c c' : Cx} {x : V} {v : Value} (hx : x.data = true) (h : VR c x v) (hi : ∀ b, c.I b → c'.I b) (hB : c'.B = c.B) (hw : c'.w = c.w) : VR c' x v := by
  cases h with
  | bool b => exact .bool b
  | int k n => exact .int k n
  | str s => exact .str s
  | nilp => exact .nilp
  | nilf => exact .nilf
  | nsl => exact .nsl
  | sl fr nn es v h => exact .sl fr nn es v ((h.mono (fun b hb => ⟨hi b hb.1, fun e => by rw [hB]; exact hb.2 e⟩) (fun b _ => by rw [hw])))
  | _ => cases hx
theorem VR.flat {c c' : Cx} {x : V} {v : Value} (hx : x.flat = true) (h : VR c x v) (hr : ∀ id p, c.ρ id = some p → c'.ρ id = some p) : VR c' x v := by
  cases h with
  | bool b => exact .bool b
  | int k n => exact .int k n
  | str s => exact .str s
  | nilp => exact .nilp
  | nilf => exact .nilf
  | nsl => exact .nsl
  | view id off len p o cap hp ho hl hm => exact .view id off len p o cap (hr _ _ hp) ho hl hm
  | ptr id i j p hp hm => exact .ptr id i j p (hr _ _ hp) hm
  | _ => cases hx

section
variable {E : Env} {sz : Nat} {ops : Array Oper} {bl : List Nat} {pre : List Ef} {o : Oper} {l : List Oper} {t : Nat → V} {h : Heap} {n : Nat} {R : (Nat → V) → Heap → Nat → Prop} {v : V} {z : Operand}
end
end Go.V
