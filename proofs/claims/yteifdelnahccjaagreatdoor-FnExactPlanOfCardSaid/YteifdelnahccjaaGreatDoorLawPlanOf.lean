import Derived.Test.YteifdelnahccjaaGreatDoorCards
import Derived.Test.YteifdelnahccjaaGreatDoorTie
import Derived.ProofKit
import Derived.OpenShut
import Derived.OpenVars
import Derived.ChangeVars
import Derived.Carry
import Derived.Deep.DeepHandedRow
import Derived.Lib.LaidTab
import Derived.Test.YteifdelnahccjaaGreatDoorP11
namespace Go.Proofs.YteifdelnahccjaaGreatDoor
open Go.V
set_option linter.unusedVariables false
set_option maxRecDepth 20000
def shM : List Sh := [.int .i64, .int .i64, .int .i64, .int .i64, .str, .str, .str]
theorem sh_cons {xs : List T} {s : Sh} {l : List Sh} (h : Shs xs (s :: l)) : ∃ x r, xs = x :: r ∧ HasSh x s ∧ Shs r l := by
 cases h with | cons x _ r _ h hs => exact ⟨x, r, rfl, h, hs⟩
theorem sh_nil {xs : List T} (h : Shs xs []) : xs = [] := by cases h; rfl
theorem sh_int {x : T} {k : IntKind} (h : HasSh x (.int k)) : ∃ n, x = .int k n := by cases h with | int _ n _ => exact ⟨n, rfl⟩
theorem sh_str {x : T} (h : HasSh x .str) : ∃ s : ByteArray, x = .str s ∧ s.size ≤ maxLen := by cases h with | str s h => exact ⟨s, rfl, h⟩
theorem sh_bool {x : T} (h : HasSh x .bool) : ∃ b, x = .bool b := by cases h with | bool b => exact ⟨b, rfl⟩
theorem sh_sl {x : T} {l : List Sh} (h : HasSh x (.sl l)) : ∃ es, x = .sl false es ∧ es.length ≤ maxLen ∧ ∀ e ∈ es, Shs e l := by cases h with | sl es _ h hs => exact ⟨es, rfl, h, hs⟩
theorem shM_inv {xs : List T} (h : Shs xs shM) : ∃ m : Msg, m.T = xs ∧ m.dg.size ≤ maxLen ∧ m.bd.size ≤ maxLen ∧ m.mc.size ≤ maxLen := by
 obtain ⟨_, _, rfl, g1, k1⟩ := sh_cons h; obtain ⟨a, rfl⟩ := sh_int g1
 obtain ⟨_, _, rfl, g2, k2⟩ := sh_cons k1; obtain ⟨b, rfl⟩ := sh_int g2
 obtain ⟨_, _, rfl, g3, k3⟩ := sh_cons k2; obtain ⟨c, rfl⟩ := sh_int g3
 obtain ⟨_, _, rfl, g4, k4⟩ := sh_cons k3; obtain ⟨d, rfl⟩ := sh_int g4
 obtain ⟨_, _, rfl, g5, k5⟩ := sh_cons k4; obtain ⟨e, rfl, h1⟩ := sh_str g5
 obtain ⟨_, _, rfl, g6, k6⟩ := sh_cons k5; obtain ⟨f, rfl, h2⟩ := sh_str g6
 obtain ⟨_, _, rfl, g7, k7⟩ := sh_cons k6; obtain ⟨g, rfl, h3⟩ := sh_str g7
 obtain rfl := sh_nil k7
 exact ⟨⟨a, b, c, d, e, f, g⟩, rfl, h1, h2, h3⟩
theorem shML_inv {xs : List T} (h : Shs xs [.sl shM]) : ∃ L : List Msg, xs = [.sl false (L.map Msg.T)] ∧ L.length ≤ maxLen ∧ ∀ i, i < L.length → (L.getD i Msg0).dg.size ≤ maxLen ∧ (L.getD i Msg0).bd.size ≤ maxLen ∧ (L.getD i Msg0).mc.size ≤ maxLen := by
 obtain ⟨_, _, rfl, g1, k1⟩ := sh_cons h; obtain ⟨es, rfl, hl1, hR⟩ := sh_sl g1
 obtain rfl := sh_nil k1
 obtain ⟨L, rfl⟩ := rows_of (f := Msg.T) es (fun e he => let ⟨r, q, _⟩ := shM_inv (hR e he); ⟨r, q⟩)
 rw [List.length_map] at hl1
 refine ⟨L, rfl, hl1, fun i hi => ?_⟩
 obtain ⟨r, q1, q2⟩ := shM_inv (hR (L.getD i Msg0).T (List.mem_map.2 ⟨_, by rw [List.getD_eq_getElem?_getD, List.getElem?_eq_getElem hi]; exact List.getElem_mem _, rfl⟩))
 generalize L.getD i Msg0 = m at q1 ⊢
 have e4 := congrArg (fun l : List T => l[4]?) q1
 have e5 := congrArg (fun l : List T => l[5]?) q1
 have e6 := congrArg (fun l : List T => l[6]?) q1
 simp only [Msg.T, List.getElem?_cons_succ, List.getElem?_cons_zero, Option.some.injEq, T.str.injEq] at e4 e5 e6
 rw [← e4, ← e5, ← e6]; exact q2
theorem pnO_len (n vw : Int) (L : List Msg) : (pnO n vw L).length ≤ 1048577 := by
 have hpg := PlG.pl n L L.length
 have h8 := hpg.hi
 unfold pnO
 split
 ·exact Nat.zero_le _
 ·split
  ·unfold plO
   split
   ·rw [N9]; omega
   ·exact Nat.zero_le _
  ·exact Nat.zero_le _
theorem lawAll (n vw : Int) (b : Bool) (L : List Msg) (hm : L.length ≤ maxLen) (hs : ∀ i, i < L.length → (L.getD i Msg0).dg.size ≤ maxLen ∧ (L.getD i Msg0).bd.size ≤ maxLen ∧ (L.getD i Msg0).mc.size ≤ maxLen) : Pure En 3 [.one (.int .i64 n), .one (.int .i64 vw), .one (.sl b (L.map Msg.T))] [.one (.bool true)] := by
 by_cases h : pnO n vw L = []
 ·exact lawN n vw b L hm hs (pnO_len n vw L) h
 ·exact lawV n vw b L hm hs (pnO_len n vw L) h
theorem plan_call (W : World) (n vw : Int) (v2 : Value) (L : List Msg) (hm : L.length ≤ maxLen) (hs : ∀ i, i < L.length → (L.getD i Msg0).dg.size ≤ maxLen ∧ (L.getD i Msg0).bd.size ≤ maxLen ∧ (L.getD i Msg0).mc.size ≤ maxLen)
  (hT : ∀ i, i < 64 → W.cell? ⟨0, i, none⟩ = some (.int .u32 (roundW.getD i 0))) (h0 : 0 < W.heap.size)
  (hv2 : TR (fun b => b < W.heap.size) W (.sl false (L.map Msg.T)) v2) :
  Calls Tryz.prog 3 #[.int .i64 n, .int .i64 vw, v2] W fun e W' => e = .returned (.bool true) ∧ RowKit.Below W.heap.size W W' := by
 have h := lawAll n vw false L hm hs
 unfold V.Pure at h
 refine Calls.mono (h.2 (fun b => b < W.heap.size) W #[.int .i64 n, .int .i64 vw, v2] (fun _ h => h) (fun g cs hg => ?_) rfl (fun i a u h1 h2 => ?_)) ?_
 ·have hg2 : g = 0 ∧ cs = tab := by
   have hg : Gl g = some cs := hg
   unfold Gl at hg
   split at hg
   ·exact ⟨rfl, (Option.some.inj hg).symm⟩
   ·cases hg
  obtain ⟨rfl, rfl⟩ := hg2
  have hj : ∀ (j : Nat) (x : T), tab[j]? = some x → j < 64 ∧ x = .int .u32 (roundW.getD j 0) := by
   intro j x hx
   have hlt : j < roundW.length := by
    have := (List.getElem?_eq_some_iff.1 hx).1
    simpa [tab] using this
   have := B5 (T.int .u32) 0 hlt
   rw [show (roundW.map (T.int .u32))[j]? = some x from hx] at this
   exact ⟨hlt, Option.some.inj this⟩
  refine .iptr false tab 0 0 (fun j => .int .u32 (roundW.getD j 0)) ⟨h0, by simp⟩ (fun j x hx => ?_) (fun j x hx => ?_)
  ·rw [Nat.zero_add]; exact hT j (hj j x hx).1
  ·rw [(hj j x hx).2]; exact .int _ _
 ·match i with
  | 0 =>
   have h1 : some (A.one (.int .i64 n)) = some a := h1
   have h2 : some (Value.int .i64 n) = some u := h2
   cases h1; cases h2; exact .one _ _ (.int _ _)
  | 1 =>
   have h1 : some (A.one (.int .i64 vw)) = some a := h1
   have h2 : some (Value.int .i64 vw) = some u := h2
   cases h1; cases h2; exact .one _ _ (.int _ _)
  | 2 =>
   have h1 : some (A.one (.sl false (L.map Msg.T))) = some a := h1
   have h2 : some v2 = some u := h2
   cases h1; cases h2; exact .one _ _ hv2
  | i + 3 => simp at h1
 ·rintro e W' ⟨u, rfl, hb, hr⟩
  refine ⟨?_, hb⟩
  cases hr with
  | one _ _ hr => cases hr with | one _ _ hr => cases hr; rfl
  | tup _ _ hne => exact absurd rfl hne
end Go.Proofs.YteifdelnahccjaaGreatDoor
namespace Go.Proofs.YteifdelnahccjaaGreatDoor.fnExactPlanOf
open Go.ChangeShapes Go.WideShapes Go.ChangeAt Go.RowKit
set_option linter.unusedVariables false
set_option maxRecDepth 20000
theorem own : ownKnob Tryz.prog.godebug = none := by kernel_rfl
theorem laidOut : laidOutB Tryz.prog = true := jn_laid
theorem gTab : Tryz.prog.globalNamed "loop.example/g00292/impl.roundWords" = some 0 := by kernel_rfl
theorem gTabType : (Tryz.prog.globals[0]?).map (·.type) = some 324 := by kernel_rfl
theorem cells324 : Tryz.prog.cellsOf 324 = 64 := by kernel_rfl
theorem cells290 : Tryz.prog.cellsOf 290 = 1 := by kernel_rfl
theorem under324 : Tryz.prog.underlying 324 = some (.array 64 290) := by kernel_rfl
theorem under290 : Tryz.prog.underlying 290 = some (.int .u32) := by kernel_rfl
theorem under3 : Tryz.prog.underlying 3 = some (.int .i64) := by kernel_rfl
theorem under4 : Tryz.prog.underlying 4 = some .bool := by kernel_rfl
theorem under22 : Tryz.prog.underlying 22 = some (.slice 97) := by kernel_rfl
theorem sh22 : V.shOf Tryz.prog 6 22 = some [.sl shM] := by kernel_rfl
theorem table {W : World} (h : laidMetH Tryz.prog Rows.fnExactPlanOfRow.laid W) : Lib.TabIs Tryz.prog W "loop.example/g00292/impl.roundWords" .u32 roundW :=
 Lib.tabIs_of_head (rest := []) gTab gTabType under324 under290 cells290 cells324 h
theorem open_arg {H : Type} {enc : TypeId × Value → H} {W : World} {v : Value} {d : DataW H} {ps : List MemPlace} (hval : Value.okWide Tryz.prog W .any 0 22 v) (h : DataW.Trod enc Tryz.prog W 0 (fun _ => true) true 22 v d ps) :
  ∃ L : List Msg, (L.length ≤ maxLen ∧ ∀ i, i < L.length → (L.getD i Msg0).dg.size ≤ maxLen ∧ (L.getD i Msg0).bd.size ≤ maxLen ∧ (L.getD i Msg0).mc.size ≤ maxLen) ∧ V.TR (fun b => b < W.heap.size) W (.sl false (L.map Msg.T)) v := by
 obtain ⟨a0, len, cap, rfl⟩ := okWide_slice under22 hval
 obtain ⟨fuel, hf⟩ := h
 obtain ⟨xs, h1, h2, h3⟩ := V.open_gen 6 fuel 22 _ _ [.sl shM] sh22 hf
 obtain ⟨L, rfl, hl, hs⟩ := shML_inv h2
 exact ⟨L, ⟨hl, hs⟩, h3 0 _ _ rfl rfl⟩
theorem contract (H : Type) (enc : TypeId × Value → H) (W : World) (args : Array Value) (ds gs : List (DataW H)) (before : List MemPlace)
  (hval : ∀ (j : Nat) t v, Tryz.f3.params[j]? = some t → args[j]? = some v → Value.okWide Tryz.prog W .any 0 t v)
  (hW : DataW.Whole enc Tryz.prog Tryz.f3.params.toList Rows.fnExactPlanOfSpec.vars false W args.toList ds gs before) (hL : laidMetH Tryz.prog Rows.fnExactPlanOfRow.laid W) :
  Calls Tryz.prog 3 args W fun e W' => ∃ v, e = .returned v ∧ Rows.fnExactPlanOfSpec.post enc Tryz.prog Tryz.f3 false true false false W args v W' := by
 have hW' := hW
 obtain ⟨p, q, hA0, hV, rfl, hfz, hnd⟩ := hW
 have hA : DataW.TrodAll enc Tryz.prog W 0 (fun _ => true) true Tryz.f3.params.toList args.toList ds p := hA0
 have hV1 : DataW.TrodVars enc Tryz.prog W (fun _ => true) ["loop.example/g00292/impl.roundWords"] gs q := hV
 rw [Tryz.params3] at hA hval
 obtain ⟨v0, v1, v2, d0, d1, d2, p0, p1, p2, rfl, rfl, rfl, h0, h1, h2⟩ := trodAll_three hA
 obtain ⟨g, t, cs, fuel, d, p', rfl, hg, ht, hvar, hd, rfl⟩ := trodVars_one hV1
 obtain ⟨n0, rfl, rfl, rfl, w0⟩ := open_int under3 (hval 0 3 v0 rfl rfl) h0
 obtain ⟨n1, rfl, rfl, rfl, w1⟩ := open_int under3 (hval 1 3 v1 rfl rfl) h1
 clear hA0
 simp only [List.nil_append] at hW' hfz hnd
 have hlt : ∀ x ∈ p2 ++ (MemPlace.row ⟨g, 0, none⟩ cs.size ++ p'), x.block < W.heap.size := fun x hx => hW'.lt x (by simpa using hx)
 obtain ⟨L, ⟨hm, hs⟩, hx2⟩ := open_arg (hval 2 22 v2 rfl rfl) h2
 have hT : ∀ i, i < 64 → W.cell? ⟨0, i, none⟩ = some (.int .u32 (roundW.getD i 0)) := fun i hi => (table hL).cell gTab i hi
 have hz : 0 < W.heap.size := by
  have := hT 0 (by decide)
  rcases Nat.lt_or_ge 0 W.heap.size with h | h
  ·exact h
  ·have hn : W.heap[0]? = none := by simp [h]
   simp [World.cell?, hn] at this
 refine (plan_call W n0 n1 v2 L hm hs hT hz hx2).mono fun e W' ⟨he, hb⟩ => ?_
 subst he
 refine ⟨_, rfl, _, _, _, [], p2, MemPlace.row ⟨g, 0, none⟩ cs.size ++ p', hW', trodAll_mk1 (shut_bool under4 _), ?_, Below.trodVars laidOut hb (by kernel_rfl) hV, hb.frame _, fun h => by cases h⟩
 have := trodAll_mk3 (shut_int (H := H) (enc := enc) (P := Tryz.prog) (w := W') (base := 0) (spare := fun b => decide (b < W.heap.size)) (held := true) under3 w0) (shut_int (H := H) (enc := enc) (P := Tryz.prog) (w := W') (base := 0) (spare := fun b => decide (b < W.heap.size)) (held := true) under3 w1) (Below.trod laidOut (by kernel_rfl) (of_decide_eq_true (by kernel_rfl)) h2 hb (fun x hx => hlt x (by simp [hx])))
 simp only [List.nil_append] at this
 exact this
noncomputable def laidWorld (os : Os) : World :=
 { World.holding Tryz.prog os ⟨#[], #[], []⟩ with heap := (World.holding Tryz.prog os ⟨#[], #[], []⟩).heap.modify 0 fun
   | .cells _ t frozen => .cells (roundW.map (Value.int .u32)).toArray t frozen
   | o => o }
theorem laid_met (os : Os) : laidMet Tryz.prog Rows.fnExactPlanOfRow.laid ((laidWorld os).forCall (fun _ _ => 0) ⟨#[], #[.int .i64 0, .int .i64 0, .slice none 0 0], []⟩).memory :=
 laidMet_of_run' 8 (by kernel_rfl) (by kernel_rfl)
theorem reads (os : Os) {H : Type} (enc : TypeId × Value → H) : ∃ ds places, DataW.whole enc Tryz.prog ((laidWorld os).forCall (fun _ _ => 0) ⟨#[], #[.int .i64 0, .int .i64 0, .slice none 0 0], []⟩).memory Tryz.f3.params.toList Rows.fnExactPlanOfSpec.vars false #[.int .i64 0, .int .i64 0, .slice none 0 0].toList 8 = some (ds, [Rows.laid_loop_example_g00292_impl_roundWords], places) :=
 ⟨[.lit (.int .i64 0), .lit (.int .i64 0), .nil], MemPlace.row ⟨0, 0, none⟩ 64, by kernel_rfl⟩
set_option maxRecDepth 100000 in
theorem lifted (os : Os) (started : os.Started) (H : Type) (enc : TypeId × Value → H) (F : Stop.Interp) :
  ReturnsInHanded {} Tryz.checked os 3 .any ((OpenSpec.ofChange Rows.fnExactPlanOfSpec).preRow enc Tryz.prog Tryz.f3 Rows.fnExactPlanOfRow.domain false Rows.fnExactPlanOfRow.laid) (((OpenSpec.ofChange Rows.fnExactPlanOfSpec).at F).post enc Tryz.prog Tryz.f3 false true false false) := by
 obtain ⟨ds0, places, hx⟩ := reads os enc
 refine returnsInHanded_of_row (C := Tryz.checked) (s := OpenSpec.ofChange Rows.fnExactPlanOfSpec) own started (by kernel_rfl) Tryz.func3
  (witness_row_at (enc := enc) (C := Tryz.checked) false (laidWorld os) #[.int .i64 0, .int .i64 0, .slice none 0 0] rfl (by kernel_rfl) (by kernel_rfl) (by kernel_rfl)
   (OpenSpec.preRow_of_cond 8 hx (by kernel_rfl) (fun k hk => by cases hk) (by kernel_rfl) (laid_met os))) ?_
 intro W base args ds gs before hval hW _ _ _ hL _ _
 exact contract H enc W args ds gs before (fun j t v h1 h2 => (hval j t v h1 h2)) hW hL
theorem said : Rows.FnExactPlanOfSaid :=
 OpenClaim.holds_of_cond 3 Tryz.f3 rfl rfl rfl rfl rfl rfl rfl ⟨rfl, rfl, rfl, rfl, rfl⟩ rfl rfl rfl rfl rfl (by kernel_rfl) Tryz.func3 joined
  (of_decide_eq_true (by kernel_rfl)) (by unfold Func.isWrapper; first | (rw [if_pos (by decide +kernel)]; kernel_rfl) | (rw [if_neg (by decide +kernel)]; exact ⟨rfl, rfl⟩))
  (fun os started H enc _ F => by rw [OpenClaim.pre_eq_preRow]; exact lifted os started H enc F)
theorem fnExactPlanOf_card : Rows.FnExactPlanOfCardSaid :=
 Claim7.holds_tied_plain_at .later [] _ _ _ _ said (fun _ h => by cases h) w1 (fun _ h => by cases h) fnExactPlanOf_row_tie rfl ⟨rfl, rfl⟩ (by kernel_rfl) rfl plain w3
end Go.Proofs.YteifdelnahccjaaGreatDoor.fnExactPlanOf
