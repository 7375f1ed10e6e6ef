/- THE ROW OF FnExactPlaceOf, out of its walk (p3 of YtnkpjlpappmccaaC14). -/
import Derived.Test.YtnkpjlpappmccaaRows
import Derived.Test.YtnkpjlpappmccaaC14
import Derived.ProofKit
import Derived.OpenShut
import Derived.Carry
import Derived.SliceStrings
namespace Go.Proofs.Ytnkpjlpappmccaa
open Go.V
set_option linter.unusedVariables false

theorem get2_strs {L : List ByteArray} {i j : Nat} {c : T} (h : get2 (strs L) i j = some c) : i < L.length ∧ j = 0 ∧ c = .str (L.getD i ⟨#[]⟩) := by
  unfold get2 at h
  rcases Nat.lt_or_ge i L.length with hi | hi
  · rw [strs_get hi] at h
    simp only [Option.bind_some, strT] at h
    cases j with
    | zero => simp only [List.getElem?_cons_zero, Option.some.injEq] at h; exact ⟨hi, rfl, h.symm⟩
    | succ j => simp at h
  · rw [List.getElem?_eq_none (by rw [strs_length]; exact hi)] at h
    simp at h

/-- A []string that came in. -/
theorem tr_strs {I : Nat → Prop} {w : World} {a : Addr} {len cap : Nat} {L : List ByteArray} (hlen : len = L.length) (hcap : len ≤ cap) (hI : L ≠ [] → a.spot = none ∧ I a.block)
    (hc : ∀ i, i < L.length → w.cell? ⟨a.block, a.off + i, none⟩ = some (.string (L.getD i ⟨#[]⟩))) : TR I w (.sl false (strs L)) (.slice (some a) len cap) := by
  refine .sl false (strs L) (some a) len cap 1 (fun i _ => .string (L.getD i ⟨#[]⟩)) (by rw [strs_length]; exact hlen) hcap (fun h => by cases h) (fun A hA hne => ?_) (fun e he => ?_) (fun A i j c hA hg => ?_) (fun i j c hg => ?_)
  · cases hA
    exact hI fun h => hne (by rw [h]; rfl)
  · unfold strs at he
    rw [List.mem_map] at he
    obtain ⟨s, _, rfl⟩ := he
    rfl
  · cases hA
    obtain ⟨h1, rfl, _⟩ := get2_strs hg
    rw [Nat.mul_one, Nat.add_zero]
    exact hc i h1
  · obtain ⟨h1, rfl, rfl⟩ := get2_strs hg
    exact .str _
theorem tr_nil {I : Nat → Prop} {w : World} : TR I w (.sl false (strs [])) (.slice none 0 0) :=
  .sl false [] none 0 0 0 (fun _ _ => undef) rfl (Nat.le_refl _) (fun _ => ⟨rfl, rfl, rfl⟩) (fun A hA => by cases hA) (by simp) (fun A _ _ _ hA => by cases hA) (fun i j c hc => by simp [get2] at hc)

/-- What the walk says of the law's call. -/
theorem place_call (W : World) (v : Value) (L : List ByteArray) (c st : Int) (hL : L.length ≤ 9223372036854775807) (hs : ∀ j, j < L.length → (L.getD j ⟨#[]⟩).size ≤ 9223372036854775807)
    (hv : TR (fun b => b < W.heap.size) W (.sl false (strs L)) v) :
    Calls Try.prog 3 #[v, .int .i64 c, .int .i64 st] W fun e W' => e = .returned (.bool true) ∧ RowKit.Below W.heap.size W W' := by
  have h := p3 false L c st hL hs
  unfold V.Pure at h
  refine Calls.mono (h.2 (fun b => b < W.heap.size) W #[v, .int .i64 c, .int .i64 st] (fun _ h => h) (fun g cs hg => by cases hg) rfl (fun i a u h1 h2 => ?_)) ?_
  · match i with
    | 0 =>
      simp only [List.getElem?_cons_zero, Option.some.injEq] at h1
      subst h1
      have h2 : some v = some u := h2
      cases h2; exact .one _ _ hv
    | 1 =>
      have h1 : some (A.one (.int .i64 c)) = some a := h1
      have h2 : some (Value.int .i64 c) = some u := h2
      cases h1; cases h2; exact .one _ _ (.int _ _)
    | 2 =>
      have h1 : some (A.one (.int .i64 st)) = some a := h1
      have h2 : some (Value.int .i64 st) = some u := h2
      cases h1; cases h2; exact .one _ _ (.int _ _)
    | i + 3 => simp at h1
  · rintro e W' ⟨u, rfl, hb, hr⟩
    refine ⟨?_, hb⟩
    cases hr with
    | one _ _ hr => cases hr with | one _ _ hr => cases hr; rfl
    | tup _ _ hne => exact absurd rfl hne

end Go.Proofs.Ytnkpjlpappmccaa

namespace Go.Proofs.Ytnkpjlpappmccaa.placeOf
open Go.ChangeShapes Go.WideShapes Go.ChangeAt Go.RowKit
set_option linter.unusedVariables false

theorem own : ownKnob Try.prog.godebug = none := by kernel_rfl
theorem laidOut : laidOutB Try.prog = true := by kernel_rfl

set_option maxRecDepth 100000 in
theorem lifted (os : Os) (started : os.Started) (H : Type) (enc : TypeId × Value → H) :
    ReturnsInHanded {} Try.checked os 3 .any (Rows.fnExactPlaceOfSpec.pre6 enc Try.prog Try.f3 Rows.fnExactPlaceOfRow.domain false) (Rows.fnExactPlaceOfSpec.post enc Try.prog Try.f3 false true false false) := by
  refine returnsInHanded_of_change (C := Try.checked) own started (by kernel_rfl) Try.func3
    (ChangeSpec.witness6 (enc := enc) (C := Try.checked) false ⟨#[], #[.slice none 0 0, .int .i64 0, .int .i64 0], []⟩ 8 (by kernel_rfl) (by kernel_rfl) (by kernel_rfl) (by kernel_rfl)) ?_
  intro W base args ds gs before hval0 hW _ _
  have hval : ∀ (j : Nat) t v, Try.f3.params[j]? = some t → args[j]? = some v → Value.okWide Try.prog W .any base t v := hval0
  have hW' := hW
  obtain ⟨p, q, hA0, hV, rfl, _, _⟩ := hW
  have hA : DataW.TrodAll enc Try.prog W 0 (fun _ => true) true Try.f3.params.toList args.toList ds p := hA0
  rw [Try.params3] at hA hval
  obtain ⟨v0, v1, v2, d0, d1, d2, p0, p1, p2, rfl, rfl, rfl, h0, h1, h2⟩ := trodAll_three hA
  obtain ⟨rfl, rfl⟩ := trodVars_none hV
  obtain ⟨c, rfl, rfl, rfl, wc⟩ := open_int Try.underlying3 (hval 1 3 v1 rfl rfl) h1
  obtain ⟨st, rfl, rfl, rfl, wst⟩ := open_int Try.underlying3 (hval 2 3 v2 rfl rfl) h2
  obtain ⟨a0, len, cap, rfl⟩ := okWide_slice Try.underlying22 (hval 0 22 v0 rfl rfl)
  have h0k := h0
  obtain ⟨fuel, hf⟩ := h0
  clear hA0 hval0
  simp only [List.append_nil] at hW'
  have hlt : ∀ x ∈ p0, x.block < W.heap.size := fun x hx => by simpa using hW'.lt x (by simpa using hx)
  have fin : ∀ e W', (e = Ending.returned (.bool true) ∧ Below W.heap.size W W') → ∃ v, e = Ending.returned v ∧ Rows.fnExactPlaceOfSpec.post enc Try.checked.prog Try.f3 false true false false W #[.slice a0 len cap, .int .i64 c, .int .i64 st] v W' := by
    intro e W' ⟨he, hb⟩
    subst he
    refine ⟨_, rfl, _, _, _, [], p0, [], hW', trodAll_mk1 (shut_bool Try.underlying4 _), ?_, rfl, hb.frame _, fun h => by cases h⟩
    have := trodAll_mk3 (Below.trod laidOut (by kernel_rfl) (of_decide_eq_true (by kernel_rfl)) h0k hb hlt) (shut_int (H := H) (enc := enc) (P := Try.prog) (w := W') (base := 0) (spare := fun b => decide (b < W.heap.size)) (held := true) Try.underlying3 wc) (shut_int Try.underlying3 wst)
    rw [List.append_nil, List.append_nil] at this
    exact this
  rcases open_strings Try.underlying22 Try.underlying9 (show Try.prog.cellsOf 9 = 1 by kernel_rfl) hf with ⟨hcs, hx⟩ | ⟨a, len', cap', ss, hcs, _, hl, hm, hz, hx, hcell, hws⟩
  · simp [Value.cells] at hcs
    obtain ⟨rfl, rfl, rfl⟩ := hcs
    exact (place_call W _ [] c st (by decide) (fun j hj => absurd hj (Nat.not_lt_zero j)) tr_nil).mono fin
  · simp [Value.cells] at hcs
    obtain ⟨rfl, rfl, rfl⟩ := hcs
    simp only [Prod.mk.injEq] at hx
    obtain ⟨_, rfl⟩ := hx
    simp only [if_true] at hz
    have hm' : cap ≤ 9223372036854775807 := hm
    have hlen : (ss.take len).length = len := by rw [List.length_take]; omega
    have hget : ∀ i, i < len → (ss.take len).getD i ⟨#[]⟩ = ss.getD i ByteArray.empty := fun i hi => by
      rw [List.getD_eq_getElem?_getD, List.getD_eq_getElem?_getD, List.getElem?_take_of_lt hi]; rfl
    refine (place_call W _ (ss.take len) c st (by omega) (fun j hj => ?_) (Go.Proofs.Ytnkpjlpappmccaa.tr_strs hlen.symm hl (fun hne => ?_) (fun i hi => ?_))).mono fin
    · rw [hget j (by omega), List.getD_eq_getElem?_getD, List.getElem?_eq_getElem (by omega)]
      have := hws ss[j] (List.getElem_mem _)
      exact this
    · have hl0 : 0 < len := by
        rcases Nat.eq_zero_or_pos len with h | h
        · exact absurd (by rw [h]; rfl) hne
        · exact h
      obtain ⟨b, off, spot⟩ := a
      have hspot : spot = none := by simpa [Addr.add] using World.cell?_spot (hcell 0 (by omega))
      subst hspot
      exact ⟨rfl, hlt (.cell b off) (MemPlace.mem_row.2 ⟨0, by omega, by simp⟩)⟩
    · have hl0 : 0 < len := by omega
      obtain ⟨b, off, spot⟩ := a
      have hspot : spot = none := by simpa [Addr.add] using World.cell?_spot (hcell 0 (by omega))
      subst hspot
      rw [hget i (by omega)]
      rw [← add_plain]
      exact hcell i (by omega)

theorem fnExactPlaceOf_holds : Rows.FnExactPlaceOfSaid :=
  OpenClaim.holds_of_wide 3 Try.f3 rfl rfl rfl rfl rfl rfl rfl ⟨rfl, rfl, rfl, rfl, rfl⟩ rfl rfl rfl rfl rfl (by kernel_rfl) Try.func3 (by kernel_rfl)
    (of_decide_eq_true (by kernel_rfl)) (by unfold Func.isWrapper; first | (rw [if_pos (by decide +kernel)]; kernel_rfl) | (rw [if_neg (by decide +kernel)]; exact ⟨rfl, rfl⟩))
    (fun os started H enc _ => lifted os started H enc)

end Go.Proofs.Ytnkpjlpappmccaa.placeOf
