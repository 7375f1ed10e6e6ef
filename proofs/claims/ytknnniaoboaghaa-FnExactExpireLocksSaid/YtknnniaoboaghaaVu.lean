import Derived.Test.YtknnniaoboaghaaVt
import Derived.ChangeArms
import Derived.DataReads
/-! What comes in, opened: whatever the type is of numbers, truth values, texts, structs and slices, nested as they may be. -/
namespace Go.V
open Go
set_option linter.unusedVariables false
set_option linter.unusedSimpArgs false

/-- What a cell may hold. -/
inductive Sh where
  | bool
  | int (k : IntKind)
  | str
  | sl (l : List Sh)

mutual
inductive HasSh : T → Sh → Prop
  | bool (b : Bool) : HasSh (.bool b) .bool
  | int (k : IntKind) (n : Int) (h : (Lit.int k n).wf = true) : HasSh (.int k n) (.int k)
  | str (s : ByteArray) (h : s.size ≤ maxLen) : HasSh (.str s) .str
  | sl (es : List (List T)) (l : List Sh) (h : es.length ≤ maxLen) (hs : ∀ e ∈ es, Shs e l) : HasSh (.sl false es) (.sl l)
inductive Shs : List T → List Sh → Prop
  | nil : Shs [] []
  | cons (x : T) (s : Sh) (xs : List T) (l : List Sh) (h : HasSh x s) (hs : Shs xs l) : Shs (x :: xs) (s :: l)
end

theorem addA (a : Addr) (i j : Nat) : (a.add i).add j = a.add (i + j) := by
  unfold Addr.add
  by_cases hi : i = 0 <;> by_cases hj : j = 0 <;> simp [hi, hj, Nat.add_assoc]
theorem addP (b o i : Nat) : (⟨b, o, none⟩ : Addr).add i = ⟨b, o + i, none⟩ := by unfold Addr.add; split <;> simp_all
theorem Shs.length {xs : List T} {l : List Sh} (h : Shs xs l) : xs.length = l.length := by
  induction xs generalizing l with
  | nil => cases h; rfl
  | cons x xs ih => cases h with | cons _ _ _ _ _ hs => simp [ih hs]
theorem Shs.append {xs ys : List T} {l m : List Sh} (h : Shs xs l) (k : Shs ys m) : Shs (xs ++ ys) (l ++ m) := by
  induction xs generalizing l with
  | nil => cases h; exact k
  | cons x xs ih => cases h with | cons _ s _ l h hs => exact .cons x s _ _ h (ih hs)

def shFs (P : Program) (rec : TypeId → Option (List Sh)) : Nat → List Field → Option (List Sh)
  | _, [] => some []
  | off, f :: fs => match rec f.type with
    | none => none
    | some l => if f.offset = off ∧ P.cellsOf f.type = l.length then (shFs P rec (off + l.length) fs).map (l ++ ·) else none
/-- The cells of a type. -/
def shOf (P : Program) : Nat → TypeId → Option (List Sh)
  | 0, _ => none
  | d + 1, t => match P.underlying t with
    | some .bool => some [.bool]
    | some (.int k) => some [.int k]
    | some .string => some [.str]
    | some (.slice e) => match shOf P d e with
      | some l => if P.cellsOf e = l.length ∧ l ≠ [] then some [.sl l] else none
      | none => none
    | some (.struct fs) => match shFs P (shOf P d) 0 fs.toList with
      | some l => if P.cellsOf t = l.length then some l else none
      | none => none
    | _ => none

/-- Values that stand for data of a shape. -/
def Opened (w : World) (cs : List Value) (l : List Sh) : Prop :=
  ∃ xs : List T, xs.length = cs.length ∧ Shs xs l ∧ ∀ (i : Nat) (x : T) (v : Value), xs[i]? = some x → cs[i]? = some v → TR (fun b => b < w.heap.size) w x v

theorem Opened.one {w : World} {v : Value} {x : T} {s : Sh} (h : HasSh x s) (t : TR (fun b => b < w.heap.size) w x v) : Opened w [v] [s] :=
  ⟨[x], rfl, .cons _ _ _ _ h .nil, fun i y u h1 h2 => by
    cases i with
    | zero => simp only [List.getElem?_cons_zero, Option.some.injEq] at h1 h2; subst h1; subst h2; exact t
    | succ i => simp at h1⟩

section
variable {H : Type} {enc : TypeId × Value → H} {P : Program} {w : World} {base : Nat} {spare : Nat → Bool} {held : Bool}

theorem open_fs {rec : TypeId → Option (List Sh)} {n : Nat} (ih : ∀ (t : TypeId) (cs : List Value) (x : DataW H × List MemPlace) (l : List Sh), rec t = some l → DataW.trod enc P w base spare held n t cs = some x → Opened w cs l) :
    ∀ (fs : List Field) (off : Nat) (l : List Sh) (cs : List Value), shFs P rec off fs = some l → cs.length = off + l.length →
      (∀ f ∈ fs, ∃ y, DataW.trod enc P w base spare held n f.type ((cs.drop f.offset).take (P.cellsOf f.type)) = some y) → Opened w (cs.drop off) l
  | [], off, l, cs, h, hl, _ => by
    simp only [shFs, Option.some.injEq] at h
    subst h
    refine ⟨[], ?_, .nil, fun i x v h1 => by simp at h1⟩
    simp only [List.length_nil, Nat.add_zero] at hl
    simp [hl]
  | f :: fs, off, l, cs, h, hl, hf => by
    unfold shFs at h
    cases hr : rec f.type with
    | none => rw [hr] at h; cases h
    | some l1 =>
      rw [hr] at h
      simp only at h
      split at h
      · rename_i hc
        obtain ⟨l2, h2, rfl⟩ := Option.map_eq_some_iff.1 h
        simp only [List.length_append] at hl
        obtain ⟨y, hy⟩ := hf f List.mem_cons_self
        rw [hc.1, hc.2] at hy
        obtain ⟨xs1, e1, s1, t1⟩ := ih f.type _ y l1 hr hy
        obtain ⟨xs2, e2, s2, t2⟩ := open_fs ih fs (off + l1.length) l2 cs h2 (by omega) (fun g hg => hf g (List.mem_cons_of_mem _ hg))
        have q1 : xs1.length = l1.length := s1.length
        refine ⟨xs1 ++ xs2, by rw [List.length_append, e2, List.length_drop, List.length_drop]; omega, s1.append s2, fun i x v g1 g2 => ?_⟩
        rcases Nat.lt_or_ge i l1.length with hi | hi
        · rw [List.getElem?_append_left (by omega)] at g1
          exact t1 i x v g1 (by rw [List.getElem?_take_of_lt hi]; exact g2)
        · rw [List.getElem?_append_right (by omega)] at g1
          refine t2 (i - xs1.length) x v g1 ?_
          rw [List.getElem?_drop] at g2 ⊢
          rw [q1, show off + l1.length + (i - l1.length) = off + i by omega]; exact g2
      · cases h

theorem open_gen : ∀ (d fuel : Nat) (t : TypeId) (cs : List Value) (x : DataW H × List MemPlace) (l : List Sh), shOf P d t = some l → DataW.trod enc P w base spare held fuel t cs = some x → Opened w cs l
  | 0, _, _, _, _, _, h, _ => by simp [shOf] at h
  | d + 1, fuel, t, cs, x, l, h, hx => by
    unfold shOf at h
    split at h
    · rename_i hu
      simp only [Option.some.injEq] at h; subst h
      obtain ⟨b, rfl, _⟩ := DataW.trod_bool hu hx
      exact Opened.one (.bool b) (.bool b)
    · rename_i k hu
      simp only [Option.some.injEq] at h; subst h
      obtain ⟨n, rfl, _, hw⟩ := DataW.trod_int hu hx
      exact Opened.one (.int k n hw) (.int k n)
    · rename_i hu
      simp only [Option.some.injEq] at h; subst h
      obtain ⟨s, rfl, _, hs⟩ := DataW.trod_string hu hx
      exact Opened.one (.str s hs) (.str s)
    · rename_i e hu
      split at h
      · rename_i le hle
        split at h
        · rename_i hc
          simp only [Option.some.injEq] at h; subst h
          rcases DataW.trod_slice hu hx with ⟨rfl, _⟩ | ⟨a, len, cap, elems, rest, n, rfl, rfl, _, hb, hl, hm, hlen, hel, _⟩
          · exact Opened.one (.sl [] le (Nat.zero_le _) (fun e he => nomatch he)) (.sl false [] none 0 0 0 (fun _ _ => undef) rfl (Nat.le_refl _) (fun _ => ⟨rfl, rfl, rfl⟩) (fun A hA => by cases hA) (by simp) (fun A _ _ _ hA => by cases hA) (fun i j c hc => by simp [get2] at hc))
          · have key : ∀ i, i < len → ∃ xs : List T, Shs xs le ∧ ∀ j y, xs[j]? = some y → ∃ v, w.cell? (a.add (i * le.length + j)) = some v ∧ TR (fun b => b < w.heap.size) w y v := fun i hi => by
              have h1 := hel i hi
              rw [List.getElem?_eq_getElem (by omega)] at h1
              obtain ⟨cs', h2, h3⟩ := Option.bind_eq_some_iff.1 h1
              obtain ⟨xs, q1, q2, q3⟩ := open_gen d n e cs' _ le hle h3
              obtain ⟨_, r1, r2⟩ := World.cells?_some h2
              refine ⟨xs, q2, fun j y hy => ?_⟩
              have hj : j < cs'.length := by rw [← q1]; exact (List.getElem?_eq_some_iff.1 hy).1
              have hc2 := r2 j (by omega)
              rw [List.getElem?_eq_getElem hj, addA, hc.1] at hc2
              exact ⟨_, hc2, q3 j y _ hy (List.getElem?_eq_getElem hj)⟩
            let row : Nat → List T := fun i => if h : i < len then Classical.choose (key i h) else []
            have hrow : ∀ i, i < len → Shs (row i) le ∧ ∀ j y, (row i)[j]? = some y → ∃ v, w.cell? (a.add (i * le.length + j)) = some v ∧ TR (fun b => b < w.heap.size) w y v := fun i hi => by
              have := Classical.choose_spec (key i hi)
              simp only [row, hi, dif_pos]; exact this
            have hget : ∀ i j y, get2 ((List.range len).map row) i j = some y → i < len ∧ (row i)[j]? = some y := fun i j y hy => by
              unfold get2 at hy
              rcases Nat.lt_or_ge i len with hi | hi
              · simp only [List.getElem?_map, List.getElem?_range hi, Option.map_some, Option.bind_some] at hy; exact ⟨hi, hy⟩
              · rw [List.getElem?_eq_none (by simpa using hi)] at hy; simp at hy
            have hspot : 0 < len → a.spot = none ∧ a.block < w.heap.size := fun h0 => by
              obtain ⟨q1, q2⟩ := hrow 0 h0
              have hne : (row 0).length ≠ 0 := by rw [q1.length]; intro e; exact hc.2 (List.length_eq_zero_iff.1 e)
              obtain ⟨v, hv, _⟩ := q2 0 _ (List.getElem?_eq_getElem (by omega))
              have hs := World.cell?_spot hv
              have hs2 : a.spot = none := by simpa [Addr.add] using hs
              refine ⟨hs2, ?_⟩
              unfold World.cell? at hv
              have : w.heap[a.block]? ≠ none := fun e => by simp [Addr.add, e] at hv
              rcases Nat.lt_or_ge a.block w.heap.size with h | h
              · exact h
              · exact absurd (Array.getElem?_eq_none h) this
            refine Opened.one (.sl ((List.range len).map row) le (by rw [List.length_map, List.length_range]; omega) (fun e he => ?_)) ?_
            · obtain ⟨i, hi, rfl⟩ := List.mem_map.1 he
              exact (hrow i (List.mem_range.1 hi)).1
            · refine .sl false _ (some a) len cap le.length (fun i j => (w.cell? ⟨a.block, a.off + i * le.length + j, none⟩).getD undef) (by simp) hl (fun h => by cases h) (fun A hA hne => ?_) (fun e he => ?_) (fun A i j c hA hg => ?_) (fun i j c hg => ?_)
              · cases hA
                exact hspot (by
                  rcases Nat.eq_zero_or_pos len with h | h
                  · subst h; exact absurd rfl hne
                  · exact h)
              · obtain ⟨i, hi, rfl⟩ := List.mem_map.1 he
                exact (hrow i (List.mem_range.1 hi)).1.length
              · cases hA
                obtain ⟨hi, hy⟩ := hget i j c hg
                obtain ⟨v, hv, _⟩ := (hrow i hi).2 j c hy
                have hs := (hspot (by omega)).1
                have e : a.add (i * le.length + j) = ⟨a.block, a.off + i * le.length + j, none⟩ := by
                  obtain ⟨b, o, sp⟩ := a
                  simp only at hs; subst hs
                  rw [addP, Nat.add_assoc]
                rw [e] at hv
                rw [hv]; rfl
              · obtain ⟨hi, hy⟩ := hget i j c hg
                obtain ⟨v, hv, ht⟩ := (hrow i hi).2 j c hy
                have hs := (hspot (by omega)).1
                have e : a.add (i * le.length + j) = ⟨a.block, a.off + i * le.length + j, none⟩ := by
                  obtain ⟨b, o, sp⟩ := a
                  simp only at hs; subst hs
                  rw [addP, Nat.add_assoc]
                rw [e] at hv
                rw [hv]; exact ht
        · cases h
      · cases h
    · rename_i fs hu
      split at h
      · rename_i lf hlf
        split at h
        · rename_i hc
          simp only [Option.some.injEq] at h; subst h
          obtain ⟨xs, n, _, _, hl, hxl, hf⟩ := DataW.trod_struct hu hx
          have := open_fs (P := P) (w := w) (rec := shOf P d) (n := n) (fun t' cs' x' l' h1 h2 => open_gen d n t' cs' x' l' h1 h2) fs.toList 0 lf cs hlf (by omega) (fun f hfm => ?_)
          · simpa using this
          · obtain ⟨i, hi, rfl⟩ := List.getElem_of_mem hfm
            have hi' : i < fs.size := by simpa using hi
            have := hf i (fs.toList[i]) (by simp [hi'])
            rw [List.getElem?_eq_getElem (by omega)] at this
            exact ⟨_, this⟩
        · cases h
      · cases h
    · cases h
end
/-- Rows that are all of one form. -/
theorem rows_of {α : Type} {f : α → List T} : ∀ (es : List (List T)), (∀ e ∈ es, ∃ r, f r = e) → ∃ L : List α, es = L.map f
  | [], _ => ⟨[], rfl⟩
  | e :: es, h => by
    obtain ⟨r, rfl⟩ := h e List.mem_cons_self
    obtain ⟨L, rfl⟩ := rows_of es fun e he => h e (List.mem_cons_of_mem _ he)
    exact ⟨r :: L, rfl⟩
end Go.V
