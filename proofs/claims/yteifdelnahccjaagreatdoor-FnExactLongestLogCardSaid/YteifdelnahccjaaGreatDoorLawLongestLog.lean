import Derived.Test.YteifdelnahccjaaGreatDoorCards
import Derived.Test.YteifdelnahccjaaGreatDoorTie
import Derived.ProofKit
import Derived.OpenShut
import Derived.OpenVars
import Derived.ChangeVars
import Derived.Carry
import Derived.Deep.DeepHandedRow
import Derived.Lib.LaidTab
import Derived.Test.YteifdelnahccjaaGreatDoorE14
namespace Go.Proofs.YteifdelnahccjaaGreatDoor.fnExactLongestLog
open Go.V Go.ChangeShapes Go.WideShapes Go.ChangeAt Go.RowKit
set_option linter.unusedVariables false
set_option linter.unusedSimpArgs false
set_option maxRecDepth 20000
theorem call_of (W : World) (s0 : Grp) (hb0 : TBs 9223372036854775807 (Grp.T s0)) (v0 : Value) (hv0 : AR (fun b => b < W.heap.size) W (.agg (Grp.T s0)) v0)
  (hT : ∀ i, i < 64 → W.cell? ⟨0, i, none⟩ = some (.int .u32 (roundW.getD i 0))) (h0 : 0 < W.heap.size) :
  Calls Tryz.prog 9 #[v0] W fun e W' => e = .returned (.bool true) ∧ RowKit.Below W.heap.size W W' := by
 have h := law9 s0 hb0
 unfold V.Pure at h
 refine Calls.mono (h.2 (fun b => b < W.heap.size) W #[v0] (fun _ h => h) (fun g cs hg => ?_) rfl (fun i a u h1 h2 => ?_)) ?_
 ·have hg2 : g = 0 ∧ cs = tab := by
   have hg : Gl g = some cs := hg
   unfold Gl at hg
   split at hg
   ·exact ⟨rfl, (Option.some.inj hg).symm⟩
   ·cases hg
  obtain ⟨rfl, rfl⟩ := hg2
  have hj : ∀ (j : Nat) (x : T), tab[j]? = some x → j < 64 ∧ x = .int .u32 (roundW.getD j 0) := by
   intro j x hx
   have hlt : j < roundW.length := by
    have := (List.getElem?_eq_some_iff.1 hx).1
    simpa [tab] using this
   have := B6 (T.int .u32) 0 hlt
   rw [show (roundW.map (T.int .u32))[j]? = some x from hx] at this
   exact ⟨hlt, Option.some.inj this⟩
  refine .iptr false tab 0 0 (fun j => .int .u32 (roundW.getD j 0)) ⟨h0, by simp⟩ (fun j x hx => ?_) (fun j x hx => ?_)
  ·rw [Nat.zero_add]; exact hT j (hj j x hx).1
  ·rw [(hj j x hx).2]; exact .int _ _
 ·match i with
  | 0 =>
   have h1 : some (A.agg (Grp.T s0)) = some a := h1
   have h2 : some (v0) = some u := h2
   cases h1; cases h2; exact hv0
  | i + 1 => simp at h1
 ·rintro e W' ⟨u, rfl, hb, hr⟩
  refine ⟨?_, hb⟩
  cases hr with
  | one _ _ hr => cases hr with | one _ _ hr => cases hr; rfl
  | tup _ _ hne => exact absurd rfl hne
theorem own : ownKnob Tryz.prog.godebug = none := by kernel_rfl
theorem laidOut : laidOutB Tryz.prog = true := jn_laid
theorem gTab : Tryz.prog.globalNamed "loop.example/g00292/impl.roundWords" = some 0 := by kernel_rfl
theorem gTabType : (Tryz.prog.globals[0]?).map (·.type) = some 324 := by kernel_rfl
theorem cells324 : Tryz.prog.cellsOf 324 = 64 := by kernel_rfl
theorem cells290 : Tryz.prog.cellsOf 290 = 1 := by kernel_rfl
theorem under324 : Tryz.prog.underlying 324 = some (.array 64 290) := by kernel_rfl
theorem under290 : Tryz.prog.underlying 290 = some (.int .u32) := by kernel_rfl
theorem under3 : Tryz.prog.underlying 3 = some (.int .i64) := by kernel_rfl
theorem under4 : Tryz.prog.underlying 4 = some .bool := by kernel_rfl
theorem table {W : World} (h : laidMetH Tryz.prog Rows.fnExactLongestLogRow.laid W) : Lib.TabIs Tryz.prog W "loop.example/g00292/impl.roundWords" .u32 roundW :=
 Lib.tabIs_of_head (rest := []) gTab gTabType under324 under290 cells290 cells324 h
theorem under61 : Tryz.prog.underlying 61 = some (.struct (Tryz.prog.fieldsOf 61)) := by kernel_rfl
theorem sh61 : V.shOf Tryz.prog 8 61 = some shGrp := by kernel_rfl
theorem open61 {H : Type} {enc : TypeId × Value → H} {W : World} {v : Value} {d : DataW H} {ps : List MemPlace} (hval : Value.okWide Tryz.prog W .any 0 61 v) (h : DataW.Trod enc Tryz.prog W 0 (fun _ => true) true 61 v d ps) :
  ∃ s : Grp, TBs 9223372036854775807 (Grp.T s) ∧ V.AR (fun b => b < W.heap.size) W (.agg (Grp.T s)) v := by
 obtain ⟨cs, rfl, _⟩ := okWide_struct under61 hval
 obtain ⟨fuel, hf⟩ := h
 obtain ⟨xs, h1, h2, h3⟩ := V.open_gen 8 fuel 61 _ _ _ sh61 hf
 have e : (Value.agg cs).cells.toList = cs.toList := rfl
 rw [e] at h1 h3
 have hB := sh_TBs h2
 obtain ⟨s, rfl⟩ := shGrp_inv h2
 exact ⟨s, hB, .agg _ cs (by simpa using h1) (fun i x u g1 g2 => h3 i x u g1 (by simpa using g2))⟩
theorem contract (H : Type) (enc : TypeId × Value → H) (W : World) (args : Array Value) (ds gs : List (DataW H)) (before : List MemPlace)
  (hval : ∀ (j : Nat) t v, Tryz.f9.params[j]? = some t → args[j]? = some v → Value.okWide Tryz.prog W .any 0 t v)
  (hW : DataW.Whole enc Tryz.prog Tryz.f9.params.toList Rows.fnExactLongestLogSpec.vars false W args.toList ds gs before) (hL : laidMetH Tryz.prog Rows.fnExactLongestLogRow.laid W) :
  Calls Tryz.prog 9 args W fun e W' => ∃ v, e = .returned v ∧ Rows.fnExactLongestLogSpec.post enc Tryz.prog Tryz.f9 false true false false W args v W' := by
 have hW' := hW
 obtain ⟨p, q, hA0, hV, rfl, hfz, hnd⟩ := hW
 have hA : DataW.TrodAll enc Tryz.prog W 0 (fun _ => true) true Tryz.f9.params.toList args.toList ds p := hA0
 have hV1 : DataW.TrodVars enc Tryz.prog W (fun _ => true) ["loop.example/g00292/impl.roundWords"] gs q := hV
 rw [Tryz.params9] at hA hval
 obtain ⟨v0, d0, rfl, rfl, h0⟩ := trodAll_one hA
 have hp0 : ∃ p0, p0 = p := ⟨p, rfl⟩
 obtain ⟨p0, rfl⟩ := hp0
 obtain ⟨g, t, cs, fuel, d, p', rfl, hg, ht, hvar, hd, rfl⟩ := trodVars_one hV1
 clear hA0
 try simp only [List.nil_append] at hW' hfz hnd
 have hlt : ∀ x ∈ (p0 ++ (MemPlace.row ⟨g, 0, none⟩ cs.size ++ p')), x.block < W.heap.size := fun x hx => hW'.lt x (by simpa using hx)
 obtain ⟨s0, hb0, hv0⟩ := open61 (hval 0 61 v0 rfl rfl) h0
 have hT : ∀ i, i < 64 → W.cell? ⟨0, i, none⟩ = some (.int .u32 (roundW.getD i 0)) := fun i hi => (table hL).cell gTab i hi
 have hz : 0 < W.heap.size := by
  have := hT 0 (by decide)
  rcases Nat.lt_or_ge 0 W.heap.size with h | h
  ·exact h
  ·have hn : W.heap[0]? = none := by simp [h]
   simp [World.cell?, hn] at this
 refine (call_of W s0 hb0 v0 hv0 hT hz).mono fun e W' ⟨he, hb⟩ => ?_
 subst he
 refine ⟨_, rfl, _, _, _, [], p0, MemPlace.row ⟨g, 0, none⟩ cs.size ++ p', hW', trodAll_mk1 (shut_bool under4 _), ?_, Below.trodVars laidOut hb (by kernel_rfl) hV, hb.frame _, fun h => by cases h⟩
 have := trodAll_mk1 (Below.trod laidOut (by kernel_rfl) (of_decide_eq_true (by kernel_rfl)) h0 hb (fun x hx => hlt x (by simp [hx])))
 first
 | exact this
 | (simp only [List.nil_append] at this; exact this)
noncomputable def laidWorld (os : Os) : World :=
 { World.holding Tryz.prog os ⟨#[], #[], []⟩ with heap := (World.holding Tryz.prog os ⟨#[], #[], []⟩).heap.modify 0 fun
   | .cells _ t frozen => .cells (roundW.map (Value.int .u32)).toArray t frozen
   | o => o }
theorem laid_met (os : Os) : laidMet Tryz.prog Rows.fnExactLongestLogRow.laid ((laidWorld os).forCall (fun _ _ => 0) ⟨#[], #[.agg #[.int .i64 0, .slice none 0 0, .slice none 0 0, .slice none 0 0, .slice none 0 0]], []⟩).memory :=
 laidMet_of_run' 8 (by kernel_rfl) (by kernel_rfl)
theorem reads (os : Os) {H : Type} (enc : TypeId × Value → H) : ∃ ds places, DataW.whole enc Tryz.prog ((laidWorld os).forCall (fun _ _ => 0) ⟨#[], #[.agg #[.int .i64 0, .slice none 0 0, .slice none 0 0, .slice none 0 0, .slice none 0 0]], []⟩).memory Tryz.f9.params.toList Rows.fnExactLongestLogSpec.vars false #[.agg #[.int .i64 0, .slice none 0 0, .slice none 0 0, .slice none 0 0, .slice none 0 0]].toList 8 = some (ds, [Rows.laid_loop_example_g00292_impl_roundWords], places) :=
 ⟨[.agg [.lit (.int .i64 0), .nil, .nil, .nil, .nil]], MemPlace.row ⟨0, 0, none⟩ 64, by kernel_rfl⟩
set_option maxRecDepth 100000 in
theorem lifted (os : Os) (started : os.Started) (H : Type) (enc : TypeId × Value → H) (F : Stop.Interp) :
  ReturnsInHanded {} Tryz.checked os 9 .any ((OpenSpec.ofChange Rows.fnExactLongestLogSpec).preRow enc Tryz.prog Tryz.f9 Rows.fnExactLongestLogRow.domain false Rows.fnExactLongestLogRow.laid) (((OpenSpec.ofChange Rows.fnExactLongestLogSpec).at F).post enc Tryz.prog Tryz.f9 false true false false) := by
 obtain ⟨ds0, places, hx⟩ := reads os enc
 refine returnsInHanded_of_row (C := Tryz.checked) (s := OpenSpec.ofChange Rows.fnExactLongestLogSpec) own started (by kernel_rfl) Tryz.func9
  (witness_row_at (enc := enc) (C := Tryz.checked) false (laidWorld os) #[.agg #[.int .i64 0, .slice none 0 0, .slice none 0 0, .slice none 0 0, .slice none 0 0]] rfl (by kernel_rfl) (by kernel_rfl) (by kernel_rfl)
   (OpenSpec.preRow_of_cond 8 hx (by kernel_rfl) (fun k hk => by cases hk) (by kernel_rfl) (laid_met os))) ?_
 intro W base args ds gs before hval hW _ _ _ hL _ _
 exact contract H enc W args ds gs before (fun j t v h1 h2 => (hval j t v h1 h2)) hW hL
theorem said : Rows.FnExactLongestLogSaid :=
 OpenClaim.holds_of_cond 9 Tryz.f9 rfl rfl rfl rfl rfl rfl rfl ⟨rfl, rfl, rfl, rfl, rfl⟩ rfl rfl rfl rfl rfl (by kernel_rfl) Tryz.func9 joined
  (of_decide_eq_true (by kernel_rfl)) (by unfold Func.isWrapper; first | (rw [if_pos (by decide +kernel)]; kernel_rfl) | (rw [if_neg (by decide +kernel)]; exact ⟨rfl, rfl⟩))
  (fun os started H enc _ F => by rw [OpenClaim.pre_eq_preRow]; exact lifted os started H enc F)
theorem fnExactLongestLog_card : Rows.FnExactLongestLogCardSaid :=
 Claim7.holds_tied_plain_at .later [] _ _ _ _ said (fun _ h => by cases h) w1 (fun _ h => by cases h) fnExactLongestLog_row_tie rfl ⟨rfl, rfl⟩ (by kernel_rfl) rfl plain w3
end Go.Proofs.YteifdelnahccjaaGreatDoor.fnExactLongestLog
