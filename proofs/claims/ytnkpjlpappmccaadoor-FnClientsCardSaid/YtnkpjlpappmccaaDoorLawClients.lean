/- Proved: Rows.FnClientsCardSaid, the tied card of the law FnClients: for every input the call returns true and both arguments read behind it as before. Conditions: none beyond the card itself (the table of words as the program text lays it). -/
import Derived.Test.YtnkpjlpappmccaaDoorCards
import Derived.Test.YtnkpjlpappmccaaDoorTie
import Derived.Test.YtnkpjlpappmccaaDoorD16
import Derived.ProofKit
import Derived.OpenShut
import Derived.OpenVars
import Derived.ChangeVars
import Derived.Carry
import Derived.Deep.DeepHandedRow
import Derived.Lib.LaidTab
namespace Go.Proofs.YtnkpjlpappmccaaDoor
open Go.V
set_option linter.unusedVariables false

theorem get2_bytes {L : List Int} {i j : Nat} {c : T} (h : get2 (L.map bT) i j = some c) : i < L.length ∧ j = 0 ∧ c = .int .u8 (L.getD i 0) := by
  unfold get2 at h
  rcases Nat.lt_or_ge i L.length with hi | hi
  · rw [mapGet bT 0 hi] at h
    simp only [Option.bind_some, bT] at h
    cases j with
    | zero => simp only [List.getElem?_cons_zero, Option.some.injEq] at h; exact ⟨hi, rfl, h.symm⟩
    | succ j => simp at h
  · rw [List.getElem?_eq_none (by rw [List.length_map]; exact hi)] at h
    simp at h

/-- A []byte that came in. -/
theorem tr_bytes {I : Nat → Prop} {w : World} {a : Addr} {len cap : Nat} {L : List Int} (hlen : len = L.length) (hcap : len ≤ cap) (hI : L ≠ [] → a.spot = none ∧ I a.block)
    (hc : ∀ i, i < L.length → w.cell? ⟨a.block, a.off + i, none⟩ = some (.int .u8 (L.getD i 0))) : TR I w (.sl false (L.map bT)) (.slice (some a) len cap) := by
  refine .sl false (L.map bT) (some a) len cap 1 (fun i _ => .int .u8 (L.getD i 0)) (by rw [List.length_map]; exact hlen) hcap (fun h => by cases h) (fun A hA hne => ?_) (fun e he => ?_) (fun A i j c hA hg => ?_) (fun i j c hg => ?_)
  · cases hA
    exact hI fun h => hne (by rw [h]; rfl)
  · rw [List.mem_map] at he
    obtain ⟨s, _, rfl⟩ := he
    rfl
  · cases hA
    obtain ⟨h1, rfl, _⟩ := get2_bytes hg
    rw [Nat.mul_one, Nat.add_zero]
    exact hc i h1
  · obtain ⟨h1, rfl, rfl⟩ := get2_bytes hg
    exact .int _ _
theorem tr_nil {I : Nat → Prop} {w : World} : TR I w (.sl false (([] : List Int).map bT)) (.slice none 0 0) :=
  .sl false [] none 0 0 0 (fun _ _ => undef) rfl (Nat.le_refl _) (fun _ => ⟨rfl, rfl, rfl⟩) (fun A hA => by cases hA) (by simp) (fun A _ _ _ hA => by cases hA) (fun i j c hc => by simp [get2] at hc)

/-- What the walk says of the law's call, in a world that holds the table. -/
theorem clients_call (W : World) (v0 v1 : Value) (C B : List Int) (hC : bytes C) (hB : bytes B) (hT : ∀ i, i < 64 → W.cell? ⟨0, i, none⟩ = some (.int .u32 (roundW.getD i 0))) (h0 : 0 < W.heap.size)
    (hv0 : TR (fun b => b < W.heap.size) W (.sl false (C.map bT)) v0) (hv1 : TR (fun b => b < W.heap.size) W (.sl false (B.map bT)) v1) :
    Calls Tryd.prog 3 #[v0, v1] W fun e W' => e = .returned (.bool true) ∧ RowKit.Below W.heap.size W W' := by
  have h := p3 false false C B hC hB
  unfold V.Pure at h
  refine Calls.mono (h.2 (fun b => b < W.heap.size) W #[v0, v1] (fun _ h => h) (fun g cs hg => ?_) rfl (fun i a u h1 h2 => ?_)) ?_
  · match g, hg with
    | 0, hg =>
      have hg : some tab = some cs := hg
      cases hg
      have hj : ∀ (j : Nat) (x : T), tab[j]? = some x → j < 64 ∧ x = .int .u32 (roundW.getD j 0) := by
        intro j x hx
        have hlt : j < roundW.length := by
          have := (List.getElem?_eq_some_iff.1 hx).1
          simpa [tab] using this
        have := mapGet (T.int .u32) 0 hlt
        rw [show (roundW.map (T.int .u32))[j]? = some x from hx] at this
        exact ⟨hlt, Option.some.inj this⟩
      refine .iptr false tab 0 0 (fun j => .int .u32 (roundW.getD j 0)) ⟨h0, by simp⟩ (fun j x hx => ?_) (fun j x hx => ?_)
      · rw [Nat.zero_add]; exact hT j (hj j x hx).1
      · rw [(hj j x hx).2]; exact .int _ _
    | g + 1, hg => cases hg
  · match i with
    | 0 =>
      simp only [List.getElem?_cons_zero, Option.some.injEq] at h1
      subst h1
      have h2 : some v0 = some u := h2
      cases h2; exact .one _ _ hv0
    | 1 =>
      have h1 : some (A.one (.sl false (B.map bT))) = some a := h1
      have h2 : some v1 = some u := h2
      cases h1; cases h2; exact .one _ _ hv1
    | i + 2 => simp at h1
  · rintro e W' ⟨u, rfl, hb, hr⟩
    refine ⟨?_, hb⟩
    cases hr with
    | one _ _ hr => cases hr with | one _ _ hr => cases hr; rfl
    | tup _ _ hne => exact absurd rfl hne

end Go.Proofs.YtnkpjlpappmccaaDoor

namespace Go.Proofs.YtnkpjlpappmccaaDoor.clients
open Go.ChangeShapes Go.WideShapes Go.ChangeAt Go.RowKit
set_option linter.unusedVariables false

theorem own : ownKnob Tryd.prog.godebug = none := by kernel_rfl
theorem laidOut : laidOutB Tryd.prog = true := by kernel_rfl
theorem gTab : Tryd.prog.globalNamed "loop.example/g00292/impl.roundWords" = some 0 := by kernel_rfl
theorem gTabType : (Tryd.prog.globals[0]?).map (·.type) = some 91 := by kernel_rfl
theorem cells91 : Tryd.prog.cellsOf 91 = 64 := by kernel_rfl
theorem cells87 : Tryd.prog.cellsOf 87 = 1 := by kernel_rfl
theorem cells5 : Tryd.prog.cellsOf 5 = 1 := by kernel_rfl
theorem under91 : Tryd.prog.underlying 91 = some (.array 64 87) := by kernel_rfl
theorem under87 : Tryd.prog.underlying 87 = some (.int .u32) := by kernel_rfl
theorem under22 : Tryd.prog.underlying 22 = some (.slice 5) := by kernel_rfl
theorem under5 : Tryd.prog.underlying 5 = some (.int .u8) := by kernel_rfl
theorem under4 : Tryd.prog.underlying 4 = some .bool := by kernel_rfl
/-- What the row's list gives: the table's cells hold its words. -/
theorem table {W : World} (h : laidMetH Tryd.prog Rows.fnClientsRow.laid W) : Lib.TabIs Tryd.prog W "loop.example/g00292/impl.roundWords" .u32 roundW :=
  Lib.tabIs_of_head (rest := []) gTab gTabType under91 under87 cells87 cells91 h

theorem u8_of_wf {n : Int} (h : (Lit.int .u8 n).wf = true) : 0 ≤ n ∧ n ≤ 255 := by
  simp only [Lit.wf, Bool.and_eq_true, decide_eq_true_eq] at h
  have h1 : IntKind.u8.min = 0 := rfl
  have h2 : IntKind.u8.max = 255 := rfl
  omega

/-- A slice of bytes, opened. -/
theorem open_arg {H : Type} {enc : TypeId × Value → H} {W : World} {v : Value} {d : DataW H} {ps : List MemPlace} (hval : Value.okWide Tryd.prog W .any 0 22 v) (h : DataW.Trod enc Tryd.prog W 0 (fun _ => true) true 22 v d ps)
    (hlt : ∀ x ∈ ps, x.block < W.heap.size) : ∃ L : List Int, bytes L ∧ V.TR (fun b => b < W.heap.size) W (.sl false (L.map bT)) v := by
  obtain ⟨a0, len, cap, rfl⟩ := okWide_slice under22 hval
  obtain ⟨fuel, hf⟩ := h
  rcases open_ints under22 under5 cells5 hf with ⟨hcs, hx⟩ | ⟨a, len', cap', zs, hcs, _, hl, hm, hz, hx, hcell, hws⟩
  · simp [Value.cells] at hcs
    obtain ⟨rfl, rfl, rfl⟩ := hcs
    exact ⟨[], fun b hb => absurd hb List.not_mem_nil, Go.Proofs.YtnkpjlpappmccaaDoor.tr_nil⟩
  · simp [Value.cells] at hcs
    obtain ⟨rfl, rfl, rfl⟩ := hcs
    simp only [Prod.mk.injEq] at hx
    obtain ⟨_, rfl⟩ := hx
    simp only [if_true] at hz
    have hlen : (zs.take len).length = len := by rw [List.length_take]; omega
    have hget : ∀ i, i < len → (zs.take len).getD i 0 = zs.getD i 0 := fun i hi => by
      rw [List.getD_eq_getElem?_getD, List.getD_eq_getElem?_getD, List.getElem?_take_of_lt hi]
    refine ⟨zs.take len, fun b hb => u8_of_wf (hws b (List.mem_of_mem_take hb)), Go.Proofs.YtnkpjlpappmccaaDoor.tr_bytes hlen.symm hl (fun hne => ?_) (fun i hi => ?_)⟩
    · have hl0 : 0 < len := by
        rcases Nat.eq_zero_or_pos len with h | h
        · exact absurd (by rw [h]; rfl) hne
        · exact h
      obtain ⟨b, off, spot⟩ := a
      have hspot : spot = none := by simpa [Addr.add] using World.cell?_spot (hcell 0 (by omega))
      subst hspot
      exact ⟨rfl, hlt (.cell b off) (MemPlace.mem_row.2 ⟨0, by omega, by simp⟩)⟩
    · obtain ⟨b, off, spot⟩ := a
      have hspot : spot = none := by simpa [Addr.add] using World.cell?_spot (hcell 0 (by omega))
      subst hspot
      rw [hget i (by omega)]
      rw [← add_plain]
      exact hcell i (by omega)

/-- What the walk gives, for every argument and every world that holds the table. -/
theorem contract (H : Type) (enc : TypeId × Value → H) (W : World) (args : Array Value) (ds gs : List (DataW H)) (before : List MemPlace)
    (hval : ∀ (j : Nat) t v, Tryd.f3.params[j]? = some t → args[j]? = some v → Value.okWide Tryd.prog W .any 0 t v)
    (hW : DataW.Whole enc Tryd.prog Tryd.f3.params.toList Rows.fnClientsSpec.vars false W args.toList ds gs before) (hL : laidMetH Tryd.prog Rows.fnClientsRow.laid W) :
    Calls Tryd.prog 3 args W fun e W' => ∃ v, e = .returned v ∧ Rows.fnClientsSpec.post enc Tryd.prog Tryd.f3 false true false false W args v W' := by
  have hW' := hW
  obtain ⟨p, q, hA0, hV, rfl, hfz, hnd⟩ := hW
  have hA : DataW.TrodAll enc Tryd.prog W 0 (fun _ => true) true Tryd.f3.params.toList args.toList ds p := hA0
  have hV1 : DataW.TrodVars enc Tryd.prog W (fun _ => true) ["loop.example/g00292/impl.roundWords"] gs q := hV
  rw [Tryd.params3] at hA hval
  obtain ⟨v0, v1, d0, d1, p0, p1, rfl, rfl, rfl, h0, h1⟩ := trodAll_two hA
  obtain ⟨g, t, cs, fuel, d, p', rfl, hg, ht, hvar, hd, rfl⟩ := trodVars_one hV1
  clear hA0
  have hlt : ∀ x ∈ (p0 ++ p1) ++ (MemPlace.row ⟨g, 0, none⟩ cs.size ++ p'), x.block < W.heap.size := fun x hx => hW'.lt x hx
  obtain ⟨C, hC, hTC⟩ := open_arg (hval 0 22 v0 rfl rfl) h0 (fun x hx => hlt x (by simp [hx]))
  obtain ⟨B, hB, hTB⟩ := open_arg (hval 1 22 v1 rfl rfl) h1 (fun x hx => hlt x (by simp [hx]))
  have hT : ∀ i, i < 64 → W.cell? ⟨0, i, none⟩ = some (.int .u32 (roundW.getD i 0)) := fun i hi => (table hL).cell gTab i hi
  have hz : 0 < W.heap.size := by
    have := hT 0 (by decide)
    rcases Nat.eq_zero_or_pos W.heap.size with h | h
    · have hn : W.heap[0]? = none := by simp [h]
      simp [World.cell?, hn] at this
    · exact h
  refine (clients_call W v0 v1 C B hC hB hT hz hTC hTB).mono fun e W' ⟨he, hb⟩ => ?_
  subst he
  refine ⟨_, rfl, _, _, _, [], p0 ++ p1, MemPlace.row ⟨g, 0, none⟩ cs.size ++ p', hW', trodAll_mk1 (shut_bool under4 _), ?_, Below.trodVars laidOut hb (by kernel_rfl) hV, hb.frame _, fun h => by cases h⟩
  exact trodAll_mk2 (Below.trod laidOut (by kernel_rfl) (of_decide_eq_true (by kernel_rfl)) h0 hb (fun x hx => hlt x (by simp [hx]))) (Below.trod laidOut (by kernel_rfl) (of_decide_eq_true (by kernel_rfl)) h1 hb (fun x hx => hlt x (by simp [hx])))

/-- A world for the witness: the settled one, the table holding its words. -/
noncomputable def laidWorld (os : Os) : World :=
  { World.holding Tryd.prog os ⟨#[], #[], []⟩ with heap := (World.holding Tryd.prog os ⟨#[], #[], []⟩).heap.modify 0 fun
      | .cells _ t frozen => .cells (roundW.map (Value.int .u32)).toArray t frozen
      | o => o }
theorem laid_met (os : Os) : laidMet Tryd.prog Rows.fnClientsRow.laid ((laidWorld os).forCall (fun _ _ => 0) ⟨#[], #[.slice none 0 0, .slice none 0 0], []⟩).memory :=
  laidMet_of_run' 8 (by kernel_rfl) (by kernel_rfl)
theorem reads (os : Os) {H : Type} (enc : TypeId × Value → H) : ∃ places, DataW.whole enc Tryd.prog ((laidWorld os).forCall (fun _ _ => 0) ⟨#[], #[.slice none 0 0, .slice none 0 0], []⟩).memory Tryd.f3.params.toList Rows.fnClientsSpec.vars false #[Value.slice none 0 0, Value.slice none 0 0].toList 8 = some ([.nil, .nil], [Rows.laid_loop_example_g00292_impl_roundWords], places) :=
  ⟨MemPlace.row ⟨0, 0, none⟩ 64, by kernel_rfl⟩

set_option maxRecDepth 100000 in
theorem lifted (os : Os) (started : os.Started) (H : Type) (enc : TypeId × Value → H) (F : Stop.Interp) :
    ReturnsInHanded {} Tryd.checked os 3 .any ((OpenSpec.ofChange Rows.fnClientsSpec).preRow enc Tryd.prog Tryd.f3 Rows.fnClientsRow.domain false Rows.fnClientsRow.laid) (((OpenSpec.ofChange Rows.fnClientsSpec).at F).post enc Tryd.prog Tryd.f3 false true false false) := by
  obtain ⟨places, hx⟩ := reads os enc
  refine returnsInHanded_of_row (C := Tryd.checked) (s := OpenSpec.ofChange Rows.fnClientsSpec) own started (by kernel_rfl) Tryd.func3
    (witness_row_at (enc := enc) (C := Tryd.checked) false (laidWorld os) #[.slice none 0 0, .slice none 0 0] rfl (by kernel_rfl) (by kernel_rfl) (by kernel_rfl)
      (OpenSpec.preRow_of_cond 8 hx (by kernel_rfl) (fun k hk => by cases hk) (by kernel_rfl) (laid_met os))) ?_
  intro W base args ds gs before hval hW _ _ _ hL _ _
  exact contract H enc W args ds gs before (fun j t v h1 h2 => (hval j t v h1 h2)) hW hL

theorem said : Rows.FnClientsSaid :=
  OpenClaim.holds_of_cond 3 Tryd.f3 rfl rfl rfl rfl rfl rfl rfl ⟨rfl, rfl, rfl, rfl, rfl⟩ rfl rfl rfl rfl rfl (by kernel_rfl) Tryd.func3 (by kernel_rfl)
    (of_decide_eq_true (by kernel_rfl)) (by unfold Func.isWrapper; first | (rw [if_pos (by decide +kernel)]; kernel_rfl) | (rw [if_neg (by decide +kernel)]; exact ⟨rfl, rfl⟩))
    (fun os started H enc _ F => by rw [OpenClaim.pre_eq_preRow]; exact lifted os started H enc F)

/-- No parameter wants a stand-in; the program's own looks are off: what the card asks. -/
theorem plain (f : FuncId) (fn : Func) (hf : Tryd.pinned.checked.prog.funcNamed "loop.example/g00292/laws.FnClients" = some f) (hfn : Tryd.pinned.checked.prog.funcs[f]? = some fn) :
    false = Tryd.pinned.checked.prog.looks [] ∧ ∀ (j : Nat) t, fn.params[j]? = some t → Tryd.pinned.checked.prog.wantsStandIn t = false := by
  obtain rfl : f = 3 := Option.some.inj ((show Tryd.prog.funcNamed "loop.example/g00292/laws.FnClients" = some 3 by kernel_rfl).symm.trans hf) |>.symm
  obtain rfl : fn = Tryd.f3 := (Option.some.inj (Tryd.func3.symm.trans hfn)).symm
  refine ⟨by kernel_rfl, fun j t ht => ?_⟩
  rw [Tryd.params3] at ht
  obtain rfl : t = 22 := by simpa using Array.mem_of_getElem? ht
  exact (show Tryd.prog.wantsStandIn 22 = false by kernel_rfl)
/-- THE CARD. -/
theorem fnClients_card : Rows.FnClientsCardSaid :=
  Claim7.holds_tied_plain_at .later [] _ _ _ _ said (fun _ h => by cases h) (by kernel_rfl) (fun _ h => by cases h) fnClients_row_tie rfl ⟨rfl, rfl⟩ (by kernel_rfl) rfl plain (by kernel_rfl)
end Go.Proofs.YtnkpjlpappmccaaDoor.clients
