import Derived.Test.YtknnniaoboaghaaVr
/-! A text's bytes laid as a literal: the conversion of the slice to its own type marks the place behind the block, and changes no cell. -/
namespace Go.V
open Go
set_option linter.unusedVariables false
set_option linter.unusedSimpArgs false
variable {E : Env} {o : Oper} {t : Nat → V} {h : Heap} {n : Nat}
def Cx.mark (c : Cx) (b m : Nat) : Cx := { c with w := c.w.freeze ⟨b, m, none⟩ 1 }
variable {sz : Nat} {ops : Array Oper} {l : List Oper} {bl : List Nat} {pre : List Ef} {R : (Nat → V) → Heap → Nat → Prop} {ty e : TypeId} {x : Operand}
end Go.V
