import Derived.Test.YteifdelnahccjaaGreatDoorCards
import Derived.Test.YteifdelnahccjaaGreatDoorTie
import Derived.ProofKit
import Derived.OpenShut
import Derived.OpenVars
import Derived.ChangeVars
import Derived.Carry
import Derived.Deep.DeepHandedRow
import Derived.Lib.LaidTab
import Derived.Test.YteifdelnahccjaaGreatDoorF12
namespace Go.Proofs.YteifdelnahccjaaGreatDoor.fnPlan
open Go.V Go.ChangeShapes Go.WideShapes Go.ChangeAt Go.RowKit
set_option linter.unusedVariables false
set_option linter.unusedSimpArgs false
set_option maxRecDepth 20000
theorem call_of (W : World) (L0 : List Int) (L1 : List Int) (hb0 : bytes L0) (hb1 : bytes L1) (v0 : Value) (hv0 : TR (fun b => b < W.heap.size) W (.sl false (L0.map bT)) v0) (v1 : Value) (hv1 : TR (fun b => b < W.heap.size) W (.sl false (L1.map bT)) v1)
  (hT : ∀ i, i < 64 → W.cell? ⟨0, i, none⟩ = some (.int .u32 (roundW.getD i 0))) (h0 : 0 < W.heap.size) :
  Calls Tryz.prog 4 #[v0, v1] W fun e W' => e = .returned (.bool true) ∧ RowKit.Below W.heap.size W W' := by
 have h := law4c L0 L1 hb0 hb1
 unfold V.Pure at h
 refine Calls.mono (h.2 (fun b => b < W.heap.size) W #[v0, v1] (fun _ h => h) (fun g cs hg => ?_) rfl (fun i a u h1 h2 => ?_)) ?_
 ·have hg2 : g = 0 ∧ cs = tab := by
   have hg : Gl g = some cs := hg
   unfold Gl at hg
   split at hg
   ·exact ⟨rfl, (Option.some.inj hg).symm⟩
   ·cases hg
  obtain ⟨rfl, rfl⟩ := hg2
  have hj : ∀ (j : Nat) (x : T), tab[j]? = some x → j < 64 ∧ x = .int .u32 (roundW.getD j 0) := by
   intro j x hx
   have hlt : j < roundW.length := by
    have := (List.getElem?_eq_some_iff.1 hx).1
    simpa [tab] using this
   have := B9 (T.int .u32) 0 hlt
   rw [show (roundW.map (T.int .u32))[j]? = some x from hx] at this
   exact ⟨hlt, Option.some.inj this⟩
  refine .iptr false tab 0 0 (fun j => .int .u32 (roundW.getD j 0)) ⟨h0, by simp⟩ (fun j x hx => ?_) (fun j x hx => ?_)
  ·rw [Nat.zero_add]; exact hT j (hj j x hx).1
  ·rw [(hj j x hx).2]; exact .int _ _
 ·match i with
  | 0 =>
   have h1 : some (A.one (.sl false (L0.map bT))) = some a := h1
   have h2 : some (v0) = some u := h2
   cases h1; cases h2; exact .one _ _ hv0
  | 1 =>
   have h1 : some (A.one (.sl false (L1.map bT))) = some a := h1
   have h2 : some (v1) = some u := h2
   cases h1; cases h2; exact .one _ _ hv1
  | i + 2 => simp at h1
 ·rintro e W' ⟨u, rfl, hb, hr⟩
  refine ⟨?_, hb⟩
  cases hr with
  | one _ _ hr => cases hr with | one _ _ hr => cases hr; rfl
  | tup _ _ hne => exact absurd rfl hne
theorem own : ownKnob Tryz.prog.godebug = none := by kernel_rfl
theorem laidOut : laidOutB Tryz.prog = true := jn_laid
theorem gTab : Tryz.prog.globalNamed "loop.example/g00292/impl.roundWords" = some 0 := by kernel_rfl
theorem gTabType : (Tryz.prog.globals[0]?).map (·.type) = some 324 := by kernel_rfl
theorem cells324 : Tryz.prog.cellsOf 324 = 64 := by kernel_rfl
theorem cells290 : Tryz.prog.cellsOf 290 = 1 := by kernel_rfl
theorem under324 : Tryz.prog.underlying 324 = some (.array 64 290) := by kernel_rfl
theorem under290 : Tryz.prog.underlying 290 = some (.int .u32) := by kernel_rfl
theorem under3 : Tryz.prog.underlying 3 = some (.int .i64) := by kernel_rfl
theorem under4 : Tryz.prog.underlying 4 = some .bool := by kernel_rfl
theorem table {W : World} (h : laidMetH Tryz.prog Rows.fnPlanRow.laid W) : Lib.TabIs Tryz.prog W "loop.example/g00292/impl.roundWords" .u32 roundW :=
 Lib.tabIs_of_head (rest := []) gTab gTabType under324 under290 cells290 cells324 h
theorem under34 : Tryz.prog.underlying 34 = some (.slice 5) := by kernel_rfl
theorem sh34 : V.shOf Tryz.prog 8 34 = some [.sl [.int .u8]] := by kernel_rfl
theorem open34 {H : Type} {enc : TypeId × Value → H} {W : World} {v : Value} {d : DataW H} {ps : List MemPlace} (hval : Value.okWide Tryz.prog W .any 0 34 v) (h : DataW.Trod enc Tryz.prog W 0 (fun _ => true) true 34 v d ps) :
  ∃ L : List Int, bytes L ∧ V.TR (fun b => b < W.heap.size) W (.sl false (L.map bT)) v := by
 obtain ⟨a0, len, cap, rfl⟩ := okWide_slice under34 hval
 obtain ⟨fuel, hf⟩ := h
 obtain ⟨xs, h1, h2, h3⟩ := V.open_gen 8 fuel 34 _ _ _ sh34 hf
 obtain ⟨x, r, rfl, g, k⟩ := sh_cons h2
 obtain ⟨L, hB, rfl⟩ := sh_bytes g
 exact ⟨L, hB, h3 0 _ _ rfl rfl⟩
theorem contract (H : Type) (enc : TypeId × Value → H) (W : World) (args : Array Value) (ds gs : List (DataW H)) (before : List MemPlace)
  (hval : ∀ (j : Nat) t v, Tryz.f4.params[j]? = some t → args[j]? = some v → Value.okWide Tryz.prog W .any 0 t v)
  (hW : DataW.Whole enc Tryz.prog Tryz.f4.params.toList Rows.fnPlanSpec.vars false W args.toList ds gs before) (hL : laidMetH Tryz.prog Rows.fnPlanRow.laid W) :
  Calls Tryz.prog 4 args W fun e W' => ∃ v, e = .returned v ∧ Rows.fnPlanSpec.post enc Tryz.prog Tryz.f4 false true false false W args v W' := by
 have hW' := hW
 obtain ⟨p, q, hA0, hV, rfl, hfz, hnd⟩ := hW
 have hA : DataW.TrodAll enc Tryz.prog W 0 (fun _ => true) true Tryz.f4.params.toList args.toList ds p := hA0
 have hV1 : DataW.TrodVars enc Tryz.prog W (fun _ => true) ["loop.example/g00292/impl.roundWords"] gs q := hV
 rw [Tryz.params4] at hA hval
 obtain ⟨v0, v1, d0, d1, p0, p1, rfl, rfl, rfl, h0, h1⟩ := trodAll_two hA
 obtain ⟨g, t, cs, fuel, d, p', rfl, hg, ht, hvar, hd, rfl⟩ := trodVars_one hV1
 clear hA0
 try simp only [List.nil_append] at hW' hfz hnd
 have hlt : ∀ x ∈ (p0 ++ (p1 ++ (MemPlace.row ⟨g, 0, none⟩ cs.size ++ p'))), x.block < W.heap.size := fun x hx => hW'.lt x (by simpa using hx)
 obtain ⟨L0, hb0, hv0⟩ := open34 (hval 0 34 v0 rfl rfl) h0
 obtain ⟨L1, hb1, hv1⟩ := open34 (hval 1 34 v1 rfl rfl) h1
 have hT : ∀ i, i < 64 → W.cell? ⟨0, i, none⟩ = some (.int .u32 (roundW.getD i 0)) := fun i hi => (table hL).cell gTab i hi
 have hz : 0 < W.heap.size := by
  have := hT 0 (by decide)
  rcases Nat.lt_or_ge 0 W.heap.size with h | h
  ·exact h
  ·have hn : W.heap[0]? = none := by simp [h]
   simp [World.cell?, hn] at this
 refine (call_of W L0 L1 hb0 hb1 v0 hv0 v1 hv1 hT hz).mono fun e W' ⟨he, hb⟩ => ?_
 subst he
 refine ⟨_, rfl, _, _, _, [], (p0 ++ (p1)), MemPlace.row ⟨g, 0, none⟩ cs.size ++ p', hW', trodAll_mk1 (shut_bool under4 _), ?_, Below.trodVars laidOut hb (by kernel_rfl) hV, hb.frame _, fun h => by cases h⟩
 have := trodAll_mk2 (Below.trod laidOut (by kernel_rfl) (of_decide_eq_true (by kernel_rfl)) h0 hb (fun x hx => hlt x (by simp [hx]))) (Below.trod laidOut (by kernel_rfl) (of_decide_eq_true (by kernel_rfl)) h1 hb (fun x hx => hlt x (by simp [hx])))
 first
 | exact this
 | (simp only [List.nil_append] at this; exact this)
noncomputable def laidWorld (os : Os) : World :=
 { World.holding Tryz.prog os ⟨#[], #[], []⟩ with heap := (World.holding Tryz.prog os ⟨#[], #[], []⟩).heap.modify 0 fun
   | .cells _ t frozen => .cells (roundW.map (Value.int .u32)).toArray t frozen
   | o => o }
theorem laid_met (os : Os) : laidMet Tryz.prog Rows.fnPlanRow.laid ((laidWorld os).forCall (fun _ _ => 0) ⟨#[], #[.slice none 0 0, .slice none 0 0], []⟩).memory :=
 laidMet_of_run' 8 (by kernel_rfl) (by kernel_rfl)
theorem reads (os : Os) {H : Type} (enc : TypeId × Value → H) : ∃ ds places, DataW.whole enc Tryz.prog ((laidWorld os).forCall (fun _ _ => 0) ⟨#[], #[.slice none 0 0, .slice none 0 0], []⟩).memory Tryz.f4.params.toList Rows.fnPlanSpec.vars false #[.slice none 0 0, .slice none 0 0].toList 8 = some (ds, [Rows.laid_loop_example_g00292_impl_roundWords], places) :=
 ⟨[.nil, .nil], MemPlace.row ⟨0, 0, none⟩ 64, by kernel_rfl⟩
set_option maxRecDepth 100000 in
theorem lifted (os : Os) (started : os.Started) (H : Type) (enc : TypeId × Value → H) (F : Stop.Interp) :
  ReturnsInHanded {} Tryz.checked os 4 .any ((OpenSpec.ofChange Rows.fnPlanSpec).preRow enc Tryz.prog Tryz.f4 Rows.fnPlanRow.domain false Rows.fnPlanRow.laid) (((OpenSpec.ofChange Rows.fnPlanSpec).at F).post enc Tryz.prog Tryz.f4 false true false false) := by
 obtain ⟨ds0, places, hx⟩ := reads os enc
 refine returnsInHanded_of_row (C := Tryz.checked) (s := OpenSpec.ofChange Rows.fnPlanSpec) own started (by kernel_rfl) Tryz.func4
  (witness_row_at (enc := enc) (C := Tryz.checked) false (laidWorld os) #[.slice none 0 0, .slice none 0 0] rfl (by kernel_rfl) (by kernel_rfl) (by kernel_rfl)
   (OpenSpec.preRow_of_cond 8 hx (by kernel_rfl) (fun k hk => by cases hk) (by kernel_rfl) (laid_met os))) ?_
 intro W base args ds gs before hval hW _ _ _ hL _ _
 exact contract H enc W args ds gs before (fun j t v h1 h2 => (hval j t v h1 h2)) hW hL
theorem said : Rows.FnPlanSaid :=
 OpenClaim.holds_of_cond 4 Tryz.f4 rfl rfl rfl rfl rfl rfl rfl ⟨rfl, rfl, rfl, rfl, rfl⟩ rfl rfl rfl rfl rfl (by kernel_rfl) Tryz.func4 joined
  (of_decide_eq_true (by kernel_rfl)) (by unfold Func.isWrapper; first | (rw [if_pos (by decide +kernel)]; kernel_rfl) | (rw [if_neg (by decide +kernel)]; exact ⟨rfl, rfl⟩))
  (fun os started H enc _ F => by rw [OpenClaim.pre_eq_preRow]; exact lifted os started H enc F)
theorem fnPlan_card : Rows.FnPlanCardSaid :=
 Claim7.holds_tied_plain_at .later [] _ _ _ _ said (fun _ h => by cases h) w1 (fun _ h => by cases h) fnPlan_row_tie rfl ⟨rfl, rfl⟩ (by kernel_rfl) rfl plain w3
end Go.Proofs.YteifdelnahccjaaGreatDoor.fnPlan
