import Derived.Test.YtknnniaoboaghaaRows
import Derived.ProofKit
import Derived.OpenShut
import Derived.Carry
import Derived.Test.YtknnniaoboaghaaF16
namespace Go.Proofs.Ytknnniaoboaghaa
open Go.V
set_option linter.unusedVariables false
set_option maxRecDepth 20000
theorem get2_bytes {L : List Int} {i j : Nat} {c : T} (h : get2 (L.map bT) i j = some c) : i < L.length ∧ j = 0 ∧ c = .int .u8 (L.getD i 0) := by
 unfold get2 at h
 rcases Nat.lt_or_ge i L.length with hi | hi
 ·rw [D8 bT 0 hi] at h
  simp only [Option.bind_some, bT] at h
  cases j with
  | zero => simp only [List.getElem?_cons_zero, Option.some.injEq] at h; exact ⟨hi, rfl, h.symm⟩
  | succ j => simp at h
 ·rw [List.getElem?_eq_none (by rw [List.length_map]; exact hi)] at h
  simp at h
theorem tr_bytes {I : Nat → Prop} {w : World} {a : Addr} {len cap : Nat} {L : List Int} (hlen : len = L.length) (hcap : len ≤ cap) (hI : L ≠ [] → a.spot = none ∧ I a.block)
  (hc : ∀ i, i < L.length → w.cell? ⟨a.block, a.off + i, none⟩ = some (.int .u8 (L.getD i 0))) : TR I w (.sl false (L.map bT)) (.slice (some a) len cap) := by
 refine .sl false (L.map bT) (some a) len cap 1 (fun i _ => .int .u8 (L.getD i 0)) (by rw [List.length_map]; exact hlen) hcap (fun h => by cases h) (fun A hA hne => ?_) (fun e he => ?_) (fun A i j c hA hg => ?_) (fun i j c hg => ?_)
 ·cases hA
  exact hI fun h => hne (by rw [h]; rfl)
 ·rw [List.mem_map] at he
  obtain ⟨s, _, rfl⟩ := he
  rfl
 ·cases hA
  obtain ⟨h1, rfl, _⟩ := get2_bytes hg
  rw [Nat.mul_one, Nat.add_zero]
  exact hc i h1
 ·obtain ⟨h1, rfl, rfl⟩ := get2_bytes hg
  exact .int _ _
theorem tr_nil {I : Nat → Prop} {w : World} : TR I w (.sl false (([] : List Int).map bT)) (.slice none 0 0) :=
 .sl false [] none 0 0 0 (fun _ _ => undef) rfl (Nat.le_refl _) (fun _ => ⟨rfl, rfl, rfl⟩) (fun A hA => by cases hA) (by simp) (fun A _ _ _ hA => by cases hA) (fun i j c hc => by simp [get2] at hc)
theorem fence_call (W : World) (v0 : Value) (C : List Int) (hC : bytes C) (hv0 : TR (fun b => b < W.heap.size) W (.sl false (C.map bT)) v0) :
  Calls Try.prog 5 #[v0] W fun e W' => e = .returned (.bool true) ∧ RowKit.Below W.heap.size W W' := by
 have h := fence_any false C hC
 unfold V.Pure at h
 refine Calls.mono (h.2 (fun b => b < W.heap.size) W #[v0] (fun _ h => h) (fun g cs hg => by cases hg) rfl (fun i a u h1 h2 => ?_)) ?_
 ·match i with
  | 0 =>
   simp only [List.getElem?_cons_zero, Option.some.injEq] at h1
   subst h1
   have h2 : some v0 = some u := h2
   cases h2; exact .one _ _ hv0
  | i + 1 => simp at h1
 ·rintro e W' ⟨u, rfl, hb, hr⟩
  refine ⟨?_, hb⟩
  cases hr with
  | one _ _ hr => cases hr with | one _ _ hr => cases hr; rfl
  | tup _ _ hne => exact absurd rfl hne
end Go.Proofs.Ytknnniaoboaghaa
namespace Go.Proofs.Ytknnniaoboaghaa.fence
open Go.ChangeShapes Go.WideShapes Go.ChangeAt Go.RowKit
set_option linter.unusedVariables false
set_option maxRecDepth 20000
theorem own : ownKnob Try.prog.godebug = none := by kernel_rfl
theorem laidOut : laidOutB Try.prog = true := by kernel_rfl
theorem cells5 : Try.prog.cellsOf 5 = 1 := by kernel_rfl
theorem under45 : Try.prog.underlying 45 = some (.slice 5) := by kernel_rfl
theorem under5 : Try.prog.underlying 5 = some (.int .u8) := by kernel_rfl
theorem under4 : Try.prog.underlying 4 = some .bool := by kernel_rfl
theorem u8_of_wf {n : Int} (h : (Lit.int .u8 n).wf = true) : 0 ≤ n ∧ n ≤ 255 := by
 simp only [Lit.wf, Bool.and_eq_true, decide_eq_true_eq] at h
 have h1 : IntKind.u8.min = 0 := rfl
 have h2 : IntKind.u8.max = 255 := rfl
 omega
theorem open_arg {H : Type} {enc : TypeId × Value → H} {W : World} {v : Value} {d : DataW H} {ps : List MemPlace} (hval : Value.okWide Try.prog W .any 0 45 v) (h : DataW.Trod enc Try.prog W 0 (fun _ => true) true 45 v d ps)
  (hlt : ∀ x ∈ ps, x.block < W.heap.size) : ∃ L : List Int, bytes L ∧ V.TR (fun b => b < W.heap.size) W (.sl false (L.map bT)) v := by
 obtain ⟨a0, len, cap, rfl⟩ := okWide_slice under45 hval
 obtain ⟨fuel, hf⟩ := h
 rcases open_ints under45 under5 cells5 hf with ⟨hcs, hx⟩ | ⟨a, len', cap', zs, hcs, _, hl, hm, hz, hx, hcell, hws⟩
 ·simp [Value.cells] at hcs
  obtain ⟨rfl, rfl, rfl⟩ := hcs
  exact ⟨[], fun b hb => absurd hb List.not_mem_nil, Go.Proofs.Ytknnniaoboaghaa.tr_nil⟩
 ·simp [Value.cells] at hcs
  obtain ⟨rfl, rfl, rfl⟩ := hcs
  simp only [Prod.mk.injEq] at hx
  obtain ⟨_, rfl⟩ := hx
  simp only [if_true] at hz
  have hlen : (zs.take len).length = len := by rw [List.length_take]; omega
  have hget : ∀ i, i < len → (zs.take len).getD i 0 = zs.getD i 0 := fun i hi => by
   rw [List.getD_eq_getElem?_getD, List.getD_eq_getElem?_getD, List.getElem?_take_of_lt hi]
  refine ⟨zs.take len, fun b hb => u8_of_wf (hws b (List.mem_of_mem_take hb)), Go.Proofs.Ytknnniaoboaghaa.tr_bytes hlen.symm hl (fun hne => ?_) (fun i hi => ?_)⟩
  ·have hl0 : 0 < len := by
    rcases Nat.eq_zero_or_pos len with h | h
    ·exact absurd (by rw [h]; rfl) hne
    ·exact h
   obtain ⟨b, off, spot⟩ := a
   have hspot : spot = none := by simpa [Addr.add] using World.cell?_spot (hcell 0 (by omega))
   subst hspot
   exact ⟨rfl, hlt (.cell b off) (MemPlace.mem_row.2 ⟨0, by omega, by simp⟩)⟩
  ·obtain ⟨b, off, spot⟩ := a
   have hspot : spot = none := by simpa [Addr.add] using World.cell?_spot (hcell 0 (by omega))
   subst hspot
   rw [hget i (by omega)]
   rw [← add_plain]
   exact hcell i (by omega)
set_option maxRecDepth 100000 in
theorem lifted (os : Os) (started : os.Started) (H : Type) (enc : TypeId × Value → H) :
  ReturnsInHanded {} Try.checked os 5 .any (Rows.fnFenceSpec.pre6 enc Try.prog Try.f5 Rows.fnFenceRow.domain false) (Rows.fnFenceSpec.post enc Try.prog Try.f5 false true false false) := by
 refine returnsInHanded_of_change (C := Try.checked) own started (by kernel_rfl) Try.func5
  (ChangeSpec.witness6 (enc := enc) (C := Try.checked) false ⟨#[], #[.slice none 0 0], []⟩ 8 (by kernel_rfl) (by kernel_rfl) (by kernel_rfl) (by kernel_rfl)) ?_
 intro W base args ds gs before hval0 hW _ _
 have hval : ∀ (j : Nat) t v, Try.f5.params[j]? = some t → args[j]? = some v → Value.okWide Try.prog W .any base t v := hval0
 have hW' := hW
 obtain ⟨p, q, hA0, hV, rfl, _, _⟩ := hW
 have hA : DataW.TrodAll enc Try.prog W 0 (fun _ => true) true Try.f5.params.toList args.toList ds p := hA0
 rw [Try.params5] at hA hval
 obtain ⟨v0, d0, rfl, rfl, h0⟩ := trodAll_one hA
 obtain ⟨rfl, rfl⟩ := trodVars_none hV
 clear hA0 hval0
 simp only [List.append_nil] at hW'
 have hlt : ∀ x ∈ p, x.block < W.heap.size := fun x hx => hW'.lt x (by simpa using hx)
 obtain ⟨C, hC, hTC⟩ := open_arg (hval 0 45 v0 rfl rfl) h0 hlt
 refine (fence_call W v0 C hC hTC).mono fun e W' ⟨he, hb⟩ => ?_
 subst he
 refine ⟨_, rfl, _, _, _, [], p, [], hW', trodAll_mk1 (shut_bool under4 _), ?_, rfl, hb.frame _, fun h => by cases h⟩
 exact trodAll_mk1 (Below.trod laidOut (by kernel_rfl) (of_decide_eq_true (by kernel_rfl)) h0 hb hlt)
theorem fnFence_holds : Rows.FnFenceSaid :=
 OpenClaim.holds_of_wide 5 Try.f5 rfl rfl rfl rfl rfl rfl rfl ⟨rfl, rfl, rfl, rfl, rfl⟩ rfl rfl rfl rfl rfl (by kernel_rfl) Try.func5 (by kernel_rfl)
  (of_decide_eq_true (by kernel_rfl)) (by unfold Func.isWrapper; first | (rw [if_pos (by decide +kernel)]; kernel_rfl) | (rw [if_neg (by decide +kernel)]; exact ⟨rfl, rfl⟩))
  (fun os started H enc _ => lifted os started H enc)
end Go.Proofs.Ytknnniaoboaghaa.fence
