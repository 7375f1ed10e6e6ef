import Derived.Test.YtknnniaoboaghaaVu
/-! Families of blocks: as many as a list is long, each under its own name. -/
namespace Go.V
open Go
set_option linter.unusedVariables false
set_option linter.unusedSimpArgs false

def famL (w : Nat → Nat) (F : Nat → Option Blk) (n : Nat) : List (Nat × Option Blk) := (List.range n).map fun i => (w i, F i)
theorem app_append : ∀ (l m : List (Nat × Option Blk)) (h : Heap), app (l ++ m) h = app m (app l h)
  | [], m, h => rfl
  | (i, b) :: l, m, h => app_append l m (upd h i b)
theorem famL_zero {w : Nat → Nat} {F : Nat → Option Blk} : famL w F 0 = [] := rfl
theorem famL_succ {w : Nat → Nat} {F : Nat → Option Blk} {n : Nat} : famL w F (n + 1) = famL w F n ++ [(w n, F n)] := by
  unfold famL; rw [List.range_succ, List.map_append]; rfl
theorem famL_ids {w : Nat → Nat} {F : Nat → Option Blk} {n : Nat} : (famL w F n).map (·.1) = (List.range n).map w := by
  unfold famL; rw [List.map_map]; rfl
theorem famL_mem {w : Nat → Nat} {F : Nat → Option Blk} {n j : Nat} : j ∈ (famL w F n).map (·.1) ↔ ∃ i, i < n ∧ w i = j := by
  rw [famL_ids, List.mem_map]
  exact ⟨fun ⟨i, h1, h2⟩ => ⟨i, List.mem_range.1 h1, h2⟩, fun ⟨i, h1, h2⟩ => ⟨i, List.mem_range.2 h1, h2⟩⟩
theorem famO {w : Nat → Nat} {F : Nat → Option Blk} {n : Nat} {h : Heap} {id : Nat} (ho : ∀ i, i < n → w i ≠ id) : app (famL w F n) h id = h id :=
  app_ne _ _ _ fun hm => by obtain ⟨i, h1, h2⟩ := famL_mem.1 hm; exact ho i h1 h2
theorem famI {w : Nat → Nat} {F : Nat → Option Blk} {h : Heap} : ∀ {n i : Nat}, (∀ i j, i < n → j < n → w i = w j → i = j) → i < n → app (famL w F n) h (w i) = F i
  | n + 1, i, inj, hi => by
    rw [famL_succ, app_append, appC, app0]
    by_cases e : i = n
    · subst e; exact updS rfl
    · rw [updN (fun e2 => e (inj i n hi (Nat.lt_succ_self n) e2))]
      exact famI (fun a b ha hb => inj a b (by omega) (by omega)) (by omega)
/-- A loop's memory, with a family in it. -/
theorem lessFam {w : Nat → Nat} {F : Nat → Option Blk} {n m : Nat} {wr : List (Nat × Option Blk)} {h g : Heap} (hz : ∀ i, m ≤ i → h i = none)
    (h0 : ∀ i, i < n → g (w i) = app (wr ++ famL w F n) h (w i)) (h1 : ∀ j ∈ wr.map (·.1), g j = app (wr ++ famL w F n) h j)
    (h2 : ∀ j, j < m → (∀ i, i < n → w i ≠ j) → j ∉ wr.map (·.1) → g j = h j) : LessH (app (wr ++ famL w F n) h) g := by
  refine lessApp (n := m) hz (fun j hj => ?_) (fun j hj hn => ?_)
  · rw [List.map_append, List.mem_append] at hj
    rcases hj with hj | hj
    · exact h1 j hj
    · obtain ⟨i, hi, rfl⟩ := famL_mem.1 hj; exact h0 i hi
  · rw [List.map_append, List.mem_append, not_or] at hn
    exact h2 j hj (fun i hi e => hn.2 (famL_mem.2 ⟨i, hi, e⟩)) hn.1
/-- The last condition of a contract that hands back a family. -/
theorem leFam {w : Nat → Nat} {F : Nat → Option Blk} {k n : Nat} {wr : List (Nat × Option Blk)} {h h' : Heap}
    (h0 : ∀ i, i < k → h' (w i) = app (wr ++ famL w F k) h (w i)) (h1 : ∀ j ∈ wr.map (·.1), h' j = app (wr ++ famL w F k) h j)
    (h2 : ∀ j, j < n → (∀ i, i < k → w i ≠ j) → j ∉ wr.map (·.1) → h' j = h j) : (∀ i, n ≤ i → h i = none) → ∀ id b, app (wr ++ famL w F k) h id = some b → h' id = some b := by
  refine leWr (fun j hj => ?_) (fun j hj hn => ?_)
  · rw [List.map_append, List.mem_append] at hj
    rcases hj with hj | hj
    · exact h1 j hj
    · obtain ⟨i, hi, rfl⟩ := famL_mem.1 hj; exact h0 i hi
  · rw [List.map_append, List.mem_append, not_or] at hn
    exact h2 j hj (fun i hi e => hn.2 (famL_mem.2 ⟨i, hi, e⟩)) hn.1
end Go.V
