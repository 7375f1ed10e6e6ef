import Derived.Test.YtknnniaoboaghaaVq
namespace Go.V
open Go
set_option linter.unusedVariables false
/-- A contract on shared memory may take names from n on for free. -/
theorem Open.fresh {E : Env} {f : FuncId} {args : List V} {h : Heap} {n m : Nat} {v : V} {wr : List (Nat × Option Blk)} (hc : callP E.P f = true) (hn : n ≤ m) (H : (∀ i, n ≤ i → h i = none) → Open E f args h n v wr m) : Open E f args h n v wr m := by
  by_cases hz : ∀ i, n ≤ i → h i = none
  · exact H hz
  · unfold Open
    refine ⟨⟨hc, hn⟩, fun c vs hg hfr _ _ => absurd (fun i hi => ?_) hz⟩
    cases hb : h i with
    | none => rfl
    | some b =>
      obtain ⟨p, hp, _⟩ := hg.blk i b hb
      rw [hfr i hi] at hp; cases hp
/-- A loop's memory, said as what was written over what was there. -/
theorem lessApp {h g : Heap} {wr : List (Nat × Option Blk)} {n : Nat} (hz : ∀ i, n ≤ i → h i = none) (h1 : ∀ j ∈ wr.map (·.1), g j = app wr h j) (h2 : ∀ j, j < n → j ∉ wr.map (·.1) → g j = h j) : LessH (app wr h) g := fun j b hj => by
  by_cases hm : j ∈ wr.map (·.1)
  · rw [h1 j hm]; exact hj
  · rw [app_ne wr h j hm] at hj
    rcases Nat.lt_or_ge j n with hl | hl
    · rw [h2 j hl hm]; exact hj
    · rw [hz j hl] at hj; cases hj
end Go.V
