/- Proved: Rows.FnExactClientTakeCardSaid, the tied card of the law FnExactClientTake: for every input the call returns true and all arguments read behind it as before. Conditions: none beyond the card itself (the table of words as the program text lays it). -/
import Derived.Test.YtcafccndgpopkaaDoorCards
import Derived.Test.YtcafccndgpopkaaDoorTie
import Derived.Test.YtcafccndgpopkaaDoorT18
import Derived.Test.YtcafccndgpopkaaDoorVu
import Derived.ProofKit
import Derived.OpenShut
import Derived.OpenVars
import Derived.ChangeVars
import Derived.Carry
import Derived.Deep.DeepHandedRow
import Derived.Lib.LaidTab
namespace Go.Proofs.YtcafccndgpopkaaDoor
open Go.V
set_option linter.unusedVariables false
set_option maxRecDepth 20000

def shR : List Sh := [.int .i64, .int .i64, .int .i64, .int .i64, .int .i64, .int .i64, .int .i64, .str]
def shA : List Sh := [.int .i64, .int .i64, .int .i64, .int .i64]
def shC : List Sh := [.int .i64, .int .i64, .bool, .int .i64, .int .i64, .int .i64, .int .i64, .str, .sl shR, .sl shA]
theorem sh_cons {xs : List T} {s : Sh} {l : List Sh} (h : Shs xs (s :: l)) : ∃ x r, xs = x :: r ∧ HasSh x s ∧ Shs r l := by
  cases h with | cons x _ r _ h hs => exact ⟨x, r, rfl, h, hs⟩
theorem sh_nil {xs : List T} (h : Shs xs []) : xs = [] := by cases h; rfl
theorem sh_int {x : T} {k : IntKind} (h : HasSh x (.int k)) : ∃ n, x = .int k n := by cases h with | int _ n _ => exact ⟨n, rfl⟩
theorem sh_str {x : T} (h : HasSh x .str) : ∃ s : ByteArray, x = .str s ∧ s.size ≤ maxLen := by cases h with | str s h => exact ⟨s, rfl, h⟩
theorem sh_bool {x : T} (h : HasSh x .bool) : ∃ b, x = .bool b := by cases h with | bool b => exact ⟨b, rfl⟩
theorem sh_sl {x : T} {l : List Sh} (h : HasSh x (.sl l)) : ∃ es, x = .sl false es ∧ es.length ≤ maxLen ∧ ∀ e ∈ es, Shs e l := by cases h with | sl es _ h hs => exact ⟨es, rfl, h, hs⟩
theorem shR_inv {xs : List T} (h : Shs xs shR) : ∃ r : Rp, r.T = xs ∧ r.mac.size ≤ maxLen := by
  obtain ⟨_, _, rfl, g1, k1⟩ := sh_cons h; obtain ⟨a, rfl⟩ := sh_int g1
  obtain ⟨_, _, rfl, g2, k2⟩ := sh_cons k1; obtain ⟨b, rfl⟩ := sh_int g2
  obtain ⟨_, _, rfl, g3, k3⟩ := sh_cons k2; obtain ⟨c, rfl⟩ := sh_int g3
  obtain ⟨_, _, rfl, g4, k4⟩ := sh_cons k3; obtain ⟨d, rfl⟩ := sh_int g4
  obtain ⟨_, _, rfl, g5, k5⟩ := sh_cons k4; obtain ⟨e, rfl⟩ := sh_int g5
  obtain ⟨_, _, rfl, g6, k6⟩ := sh_cons k5; obtain ⟨f, rfl⟩ := sh_int g6
  obtain ⟨_, _, rfl, g7, k7⟩ := sh_cons k6; obtain ⟨g, rfl⟩ := sh_int g7
  obtain ⟨_, _, rfl, g8, k8⟩ := sh_cons k7; obtain ⟨s, rfl, hs⟩ := sh_str g8
  obtain rfl := sh_nil k8
  exact ⟨⟨a, b, c, ⟨d, e, f, g⟩, s⟩, rfl, hs⟩
theorem shA_inv {xs : List T} (h : Shs xs shA) : ∃ a : An, a.T = xs := by
  obtain ⟨_, _, rfl, g1, k1⟩ := sh_cons h; obtain ⟨d, rfl⟩ := sh_int g1
  obtain ⟨_, _, rfl, g2, k2⟩ := sh_cons k1; obtain ⟨e, rfl⟩ := sh_int g2
  obtain ⟨_, _, rfl, g3, k3⟩ := sh_cons k2; obtain ⟨f, rfl⟩ := sh_int g3
  obtain ⟨_, _, rfl, g4, k4⟩ := sh_cons k3; obtain ⟨g, rfl⟩ := sh_int g4
  obtain rfl := sh_nil k4
  exact ⟨⟨d, e, f, g⟩, rfl⟩
theorem shC_inv {xs : List T} (h : Shs xs shC) : ∃ c : Cl, c.T false false = xs ∧ c.rq.nm.size ≤ maxLen ∧ c.rps.length ≤ maxLen ∧ (∀ i, i < c.rps.length → (c.rps.getD i Rp0).mac.size ≤ maxLen) ∧ c.acc.length ≤ maxLen := by
  obtain ⟨_, _, rfl, g1, k1⟩ := sh_cons h; obtain ⟨a, rfl⟩ := sh_int g1
  obtain ⟨_, _, rfl, g2, k2⟩ := sh_cons k1; obtain ⟨b, rfl⟩ := sh_int g2
  obtain ⟨_, _, rfl, g3, k3⟩ := sh_cons k2; obtain ⟨z, rfl⟩ := sh_bool g3
  obtain ⟨_, _, rfl, g4, k4⟩ := sh_cons k3; obtain ⟨d, rfl⟩ := sh_int g4
  obtain ⟨_, _, rfl, g5, k5⟩ := sh_cons k4; obtain ⟨e, rfl⟩ := sh_int g5
  obtain ⟨_, _, rfl, g6, k6⟩ := sh_cons k5; obtain ⟨f, rfl⟩ := sh_int g6
  obtain ⟨_, _, rfl, g7, k7⟩ := sh_cons k6; obtain ⟨g, rfl⟩ := sh_int g7
  obtain ⟨_, _, rfl, g8, k8⟩ := sh_cons k7; obtain ⟨s, rfl, hs⟩ := sh_str g8
  obtain ⟨_, _, rfl, g9, k9⟩ := sh_cons k8; obtain ⟨es, rfl, hl1, hR⟩ := sh_sl g9
  obtain ⟨_, _, rfl, g10, k10⟩ := sh_cons k9; obtain ⟨ks, rfl, hl2, hA⟩ := sh_sl g10
  obtain rfl := sh_nil k10
  obtain ⟨L, rfl⟩ := rows_of (f := Rp.T) es (fun e he => let ⟨r, q, _⟩ := shR_inv (hR e he); ⟨r, q⟩)
  obtain ⟨K, rfl⟩ := rows_of (f := An.T) ks (fun e he => shA_inv (hA e he))
  rw [List.length_map] at hl1 hl2
  refine ⟨⟨a, b, z, ⟨d, e, f, g, s⟩, L, K⟩, rfl, hs, hl1, fun i hi => ?_, hl2⟩
  obtain ⟨r, q1, q2⟩ := shR_inv (hR (L.getD i Rp0).T (List.mem_map.2 ⟨_, by rw [List.getD_eq_getElem?_getD, List.getElem?_eq_getElem hi]; exact List.getElem_mem _, rfl⟩))
  have e : r.mac = (L.getD i Rp0).mac := by
    have := congrArg (fun l : List T => l[7]?) q1
    simp only [Rp.T, List.getElem?_cons_succ, List.getElem?_cons_zero, Option.some.injEq, T.str.injEq] at this
    exact this
  rw [← e]; exact q2

/-- What the walk says of the law's call, in a world that holds the table. -/
theorem take_call (W : World) (n0 : Int) (v1 v2 : Value) (c : Cl) (r : Rp) (hq : c.rq.nm.size ≤ maxLen) (hm : c.rps.length ≤ maxLen) (hs : ∀ i, i < c.rps.length → (c.rps.getD i Rp0).mac.size ≤ maxLen) (ha : c.acc.length ≤ maxLen) (hr : r.mac.size ≤ maxLen)
    (hT : ∀ i, i < 64 → W.cell? ⟨2, i, none⟩ = some (.int .u32 (roundW.getD i 0))) (h0 : 2 < W.heap.size)
    (hv1 : AR (fun b => b < W.heap.size) W (.agg (c.T false false)) v1) (hv2 : AR (fun b => b < W.heap.size) W (.agg r.T) v2) :
    Calls Tryd.prog 3 #[.int .i64 n0, v1, v2] W fun e W' => e = .returned (.bool true) ∧ RowKit.Below W.heap.size W W' := by
  have h := lawAll n0 c r false false hq hm hs ha hr
  unfold V.Pure at h
  refine Calls.mono (h.2 (fun b => b < W.heap.size) W #[.int .i64 n0, v1, v2] (fun _ h => h) (fun g cs hg => ?_) rfl (fun i a u h1 h2 => ?_)) ?_
  · have hg2 : g = 2 ∧ cs = tab := by
      have hg : Gl g = some cs := hg
      unfold Gl at hg
      split at hg
      · exact ⟨rfl, (Option.some.inj hg).symm⟩
      · cases hg
    obtain ⟨rfl, rfl⟩ := hg2
    have hj : ∀ (j : Nat) (x : T), tab[j]? = some x → j < 64 ∧ x = .int .u32 (roundW.getD j 0) := by
      intro j x hx
      have hlt : j < roundW.length := by
        have := (List.getElem?_eq_some_iff.1 hx).1
        simpa [tab] using this
      have := mapGet (T.int .u32) 0 hlt
      rw [show (roundW.map (T.int .u32))[j]? = some x from hx] at this
      exact ⟨hlt, Option.some.inj this⟩
    refine .iptr false tab 2 0 (fun j => .int .u32 (roundW.getD j 0)) ⟨h0, by simp⟩ (fun j x hx => ?_) (fun j x hx => ?_)
    · rw [Nat.zero_add]; exact hT j (hj j x hx).1
    · rw [(hj j x hx).2]; exact .int _ _
  · match i with
    | 0 =>
      have h1 : some (A.one (.int .i64 n0)) = some a := h1
      have h2 : some (Value.int .i64 n0) = some u := h2
      cases h1; cases h2; exact .one _ _ (.int _ _)
    | 1 =>
      have h1 : some (A.agg (c.T false false)) = some a := h1
      have h2 : some v1 = some u := h2
      cases h1; cases h2; exact hv1
    | 2 =>
      have h1 : some (A.agg r.T) = some a := h1
      have h2 : some v2 = some u := h2
      cases h1; cases h2; exact hv2
    | i + 3 => simp at h1
  · rintro e W' ⟨u, rfl, hb, hr⟩
    refine ⟨?_, hb⟩
    cases hr with
    | one _ _ hr => cases hr with | one _ _ hr => cases hr; rfl
    | tup _ _ hne => exact absurd rfl hne

end Go.Proofs.YtcafccndgpopkaaDoor

namespace Go.Proofs.YtcafccndgpopkaaDoor.take
open Go.ChangeShapes Go.WideShapes Go.ChangeAt Go.RowKit
set_option linter.unusedVariables false
set_option maxRecDepth 20000

theorem own : ownKnob Tryd.prog.godebug = none := by kernel_rfl
theorem laidOut : laidOutB Tryd.prog = true := by kernel_rfl
theorem gTab : Tryd.prog.globalNamed "loop.example/g00292/impl.roundWords" = some 2 := by kernel_rfl
theorem gTabType : (Tryd.prog.globals[2]?).map (·.type) = some 164 := by kernel_rfl
theorem cells164 : Tryd.prog.cellsOf 164 = 64 := by kernel_rfl
theorem cells146 : Tryd.prog.cellsOf 146 = 1 := by kernel_rfl
theorem under164 : Tryd.prog.underlying 164 = some (.array 64 146) := by kernel_rfl
theorem under146 : Tryd.prog.underlying 146 = some (.int .u32) := by kernel_rfl
theorem under3 : Tryd.prog.underlying 3 = some (.int .i64) := by kernel_rfl
theorem under4 : Tryd.prog.underlying 4 = some .bool := by kernel_rfl
theorem under27 : Tryd.prog.underlying 27 = some (.struct (Tryd.prog.fieldsOf 27)) := by kernel_rfl
theorem under31 : Tryd.prog.underlying 31 = some (.struct (Tryd.prog.fieldsOf 31)) := by kernel_rfl
theorem sh27 : V.shOf Tryd.prog 6 27 = some shC := by kernel_rfl
theorem sh31 : V.shOf Tryd.prog 6 31 = some shR := by kernel_rfl
/-- What the row's list gives: the table's cells hold its words. -/
theorem table {W : World} (h : laidMetH Tryd.prog Rows.fnExactClientTakeRow.laid W) : Lib.TabIs Tryd.prog W "loop.example/g00292/impl.roundWords" .u32 roundW :=
  Lib.tabIs_of_head (rest := []) gTab gTabType under164 under146 cells146 cells164 h

/-- A struct, opened. -/
theorem open_arg {H : Type} {enc : TypeId × Value → H} {W : World} {t : TypeId} {fs : Array Field} {l : List V.Sh} {v : Value} {d : DataW H} {ps : List MemPlace} (hu : Tryd.prog.underlying t = some (.struct fs)) (hsh : V.shOf Tryd.prog 6 t = some l)
    (hval : Value.okWide Tryd.prog W .any 0 t v) (h : DataW.Trod enc Tryd.prog W 0 (fun _ => true) true t v d ps) :
    ∃ xs : List V.T, V.Shs xs l ∧ V.AR (fun b => b < W.heap.size) W (.agg xs) v := by
  obtain ⟨cs, rfl, _⟩ := okWide_struct hu hval
  obtain ⟨fuel, hf⟩ := h
  obtain ⟨xs, h1, h2, h3⟩ := V.open_gen 6 fuel t _ _ l hsh hf
  have e : (Value.agg cs).cells.toList = cs.toList := rfl
  rw [e] at h1 h3
  exact ⟨xs, h2, .agg xs cs (by simpa using h1) (fun i x u g1 g2 => h3 i x u g1 (by simpa using g2))⟩

/-- What the walk gives, for every argument and every world that holds the table. -/
theorem contract (H : Type) (enc : TypeId × Value → H) (W : World) (args : Array Value) (ds gs : List (DataW H)) (before : List MemPlace)
    (hval : ∀ (j : Nat) t v, Tryd.f3.params[j]? = some t → args[j]? = some v → Value.okWide Tryd.prog W .any 0 t v)
    (hW : DataW.Whole enc Tryd.prog Tryd.f3.params.toList Rows.fnExactClientTakeSpec.vars false W args.toList ds gs before) (hL : laidMetH Tryd.prog Rows.fnExactClientTakeRow.laid W) :
    Calls Tryd.prog 3 args W fun e W' => ∃ v, e = .returned v ∧ Rows.fnExactClientTakeSpec.post enc Tryd.prog Tryd.f3 false true false false W args v W' := by
  have hW' := hW
  obtain ⟨p, q, hA0, hV, rfl, hfz, hnd⟩ := hW
  have hA : DataW.TrodAll enc Tryd.prog W 0 (fun _ => true) true Tryd.f3.params.toList args.toList ds p := hA0
  have hV1 : DataW.TrodVars enc Tryd.prog W (fun _ => true) ["loop.example/g00292/impl.roundWords"] gs q := hV
  rw [Tryd.params3] at hA hval
  obtain ⟨v0, v1, v2, d0, d1, d2, p0, p1, p2, rfl, rfl, rfl, h0, h1, h2⟩ := trodAll_three hA
  obtain ⟨g, t, cs, fuel, d, p', rfl, hg, ht, hvar, hd, rfl⟩ := trodVars_one hV1
  obtain ⟨n0, rfl, rfl, rfl, w0⟩ := open_int under3 (hval 0 3 v0 rfl rfl) h0
  clear hA0
  simp only [List.nil_append] at hW' hfz hnd
  have hlt : ∀ x ∈ (p1 ++ p2) ++ (MemPlace.row ⟨g, 0, none⟩ cs.size ++ p'), x.block < W.heap.size := fun x hx => hW'.lt x (by simpa using hx)
  obtain ⟨xs, hx1, hx2⟩ := open_arg under27 sh27 (hval 1 27 v1 rfl rfl) h1
  obtain ⟨c, rfl, hq, hm, hs, ha⟩ := shC_inv hx1
  obtain ⟨ys, hy1, hy2⟩ := open_arg under31 sh31 (hval 2 31 v2 rfl rfl) h2
  obtain ⟨r, rfl, hr⟩ := shR_inv hy1
  have hT : ∀ i, i < 64 → W.cell? ⟨2, i, none⟩ = some (.int .u32 (roundW.getD i 0)) := fun i hi => (table hL).cell gTab i hi
  have hz : 2 < W.heap.size := by
    have := hT 0 (by decide)
    rcases Nat.lt_or_ge 2 W.heap.size with h | h
    · exact h
    · have hn : W.heap[2]? = none := by simp [h]
      simp [World.cell?, hn] at this
  refine (take_call W n0 v1 v2 c r hq hm hs ha hr hT hz hx2 hy2).mono fun e W' ⟨he, hb⟩ => ?_
  subst he
  refine ⟨_, rfl, _, _, _, [], p1 ++ p2, MemPlace.row ⟨g, 0, none⟩ cs.size ++ p', hW', trodAll_mk1 (shut_bool under4 _), ?_, Below.trodVars laidOut hb (by kernel_rfl) hV, hb.frame _, fun h => by cases h⟩
  have := trodAll_mk3 (shut_int (H := H) (enc := enc) (P := Tryd.prog) (w := W') (base := 0) (spare := fun b => decide (b < W.heap.size)) (held := true) under3 w0) (Below.trod laidOut (by kernel_rfl) (of_decide_eq_true (by kernel_rfl)) h1 hb (fun x hx => hlt x (by simp [hx]))) (Below.trod laidOut (by kernel_rfl) (of_decide_eq_true (by kernel_rfl)) h2 hb (fun x hx => hlt x (by simp [hx])))
  rw [List.nil_append] at this
  exact this

def a1 : Value := .agg #[.int .i64 0, .int .i64 0, .bool false, .int .i64 0, .int .i64 0, .int .i64 0, .int .i64 0, .string ⟨#[]⟩, .slice none 0 0, .slice none 0 0]
def a2 : Value := .agg #[.int .i64 0, .int .i64 0, .int .i64 0, .int .i64 0, .int .i64 0, .int .i64 0, .int .i64 0, .string ⟨#[]⟩]
/-- A world for the witness: the settled one, the table holding its words. -/
noncomputable def laidWorld (os : Os) : World :=
  { World.holding Tryd.prog os ⟨#[], #[], []⟩ with heap := (World.holding Tryd.prog os ⟨#[], #[], []⟩).heap.modify 2 fun
      | .cells _ t frozen => .cells (roundW.map (Value.int .u32)).toArray t frozen
      | o => o }
theorem laid_met (os : Os) : laidMet Tryd.prog Rows.fnExactClientTakeRow.laid ((laidWorld os).forCall (fun _ _ => 0) ⟨#[], #[.int .i64 0, a1, a2], []⟩).memory :=
  laidMet_of_run' 8 (by kernel_rfl) (by kernel_rfl)
theorem reads (os : Os) {H : Type} (enc : TypeId × Value → H) : ∃ ds places, DataW.whole enc Tryd.prog ((laidWorld os).forCall (fun _ _ => 0) ⟨#[], #[.int .i64 0, a1, a2], []⟩).memory Tryd.f3.params.toList Rows.fnExactClientTakeSpec.vars false #[.int .i64 0, a1, a2].toList 8 = some (ds, [Rows.laid_loop_example_g00292_impl_roundWords], places) :=
  ⟨[.lit (.int .i64 0), .agg [.lit (.int .i64 0), .lit (.int .i64 0), .lit (.bool false), .agg [.lit (.int .i64 0), .lit (.int .i64 0), .lit (.int .i64 0), .lit (.int .i64 0), .lit (.string [])], .nil, .nil], .agg [.lit (.int .i64 0), .lit (.int .i64 0), .lit (.int .i64 0), .agg [.lit (.int .i64 0), .lit (.int .i64 0), .lit (.int .i64 0), .lit (.int .i64 0)], .lit (.string [])]], MemPlace.row ⟨2, 0, none⟩ 64, by kernel_rfl⟩

set_option maxRecDepth 100000 in
theorem lifted (os : Os) (started : os.Started) (H : Type) (enc : TypeId × Value → H) (F : Stop.Interp) :
    ReturnsInHanded {} Tryd.checked os 3 .any ((OpenSpec.ofChange Rows.fnExactClientTakeSpec).preRow enc Tryd.prog Tryd.f3 Rows.fnExactClientTakeRow.domain false Rows.fnExactClientTakeRow.laid) (((OpenSpec.ofChange Rows.fnExactClientTakeSpec).at F).post enc Tryd.prog Tryd.f3 false true false false) := by
  obtain ⟨ds0, places, hx⟩ := reads os enc
  refine returnsInHanded_of_row (C := Tryd.checked) (s := OpenSpec.ofChange Rows.fnExactClientTakeSpec) own started (by kernel_rfl) Tryd.func3
    (witness_row_at (enc := enc) (C := Tryd.checked) false (laidWorld os) #[.int .i64 0, a1, a2] rfl (by kernel_rfl) (by kernel_rfl) (by kernel_rfl)
      (OpenSpec.preRow_of_cond 8 hx (by kernel_rfl) (fun k hk => by cases hk) (by kernel_rfl) (laid_met os))) ?_
  intro W base args ds gs before hval hW _ _ _ hL _ _
  exact contract H enc W args ds gs before (fun j t v h1 h2 => (hval j t v h1 h2)) hW hL

theorem said : Rows.FnExactClientTakeSaid :=
  OpenClaim.holds_of_cond 3 Tryd.f3 rfl rfl rfl rfl rfl rfl rfl ⟨rfl, rfl, rfl, rfl, rfl⟩ rfl rfl rfl rfl rfl (by kernel_rfl) Tryd.func3 (by kernel_rfl)
    (of_decide_eq_true (by kernel_rfl)) (by unfold Func.isWrapper; first | (rw [if_pos (by decide +kernel)]; kernel_rfl) | (rw [if_neg (by decide +kernel)]; exact ⟨rfl, rfl⟩))
    (fun os started H enc _ F => by rw [OpenClaim.pre_eq_preRow]; exact lifted os started H enc F)

/-- No parameter wants a stand-in; the program's own looks are off: what the card asks. -/
theorem plain (f : FuncId) (fn : Func) (hf : Tryd.pinned.checked.prog.funcNamed "loop.example/g00292/laws.FnExactClientTake" = some f) (hfn : Tryd.pinned.checked.prog.funcs[f]? = some fn) :
    true = Tryd.pinned.checked.prog.looks [] ∧ ∀ (j : Nat) t, fn.params[j]? = some t → Tryd.pinned.checked.prog.wantsStandIn t = false := by
  obtain rfl : f = 3 := Option.some.inj ((show Tryd.prog.funcNamed "loop.example/g00292/laws.FnExactClientTake" = some 3 by kernel_rfl).symm.trans hf) |>.symm
  obtain rfl : fn = Tryd.f3 := (Option.some.inj (Tryd.func3.symm.trans hfn)).symm
  refine ⟨by kernel_rfl, fun j t ht => ?_⟩
  rw [Tryd.params3] at ht
  have hm := Array.mem_of_getElem? ht
  simp only [List.mem_toArray, List.mem_cons, List.not_mem_nil, or_false] at hm
  rcases hm with rfl | rfl | rfl
  · exact (show Tryd.prog.wantsStandIn 3 = false by kernel_rfl)
  · exact (show Tryd.prog.wantsStandIn 27 = false by kernel_rfl)
  · exact (show Tryd.prog.wantsStandIn 31 = false by kernel_rfl)
/-- THE CARD. -/
theorem fnExactClientTake_card : Rows.FnExactClientTakeCardSaid :=
  Claim7.holds_tied_plain_at .later [] _ _ _ _ said (fun _ h => by cases h) (by kernel_rfl) (fun _ h => by cases h) fnExactClientTake_row_tie rfl ⟨rfl, rfl⟩ (by kernel_rfl) rfl plain (by kernel_rfl)
end Go.Proofs.YtcafccndgpopkaaDoor.take
