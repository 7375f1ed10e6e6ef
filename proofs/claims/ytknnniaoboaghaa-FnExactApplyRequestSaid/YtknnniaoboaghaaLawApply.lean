import Derived.Test.YtknnniaoboaghaaRows
import Derived.ProofKit
import Derived.OpenShut
import Derived.Carry
import Derived.ChangeMaps5
import Derived.Test.YtknnniaoboaghaaM16
namespace Go.Proofs.Ytknnniaoboaghaa
open Go.V
set_option linter.unusedVariables false
set_option maxRecDepth 20000
def shW : List Sh := [.int .i64, .int .i64]
def shL : List Sh := [.str, .int .i64, .int .i64, .int .i64, .sl shW]
def shS : List Sh := [.int .i64, .int .i64, .int .i64, .int .i64, .int .i64, .int .i64]
def shT : List Sh := [.int .i64, .int .i64, .sl shL, .sl shS]
theorem sh_cons {xs : List T} {s : Sh} {l : List Sh} (h : Shs xs (s :: l)) : ∃ x r, xs = x :: r ∧ HasSh x s ∧ Shs r l := by
 cases h with | cons x _ r _ h hs => exact ⟨x, r, rfl, h, hs⟩
theorem sh_nil {xs : List T} (h : Shs xs []) : xs = [] := by cases h; rfl
theorem sh_int {x : T} {k : IntKind} (h : HasSh x (.int k)) : ∃ n, x = .int k n := by cases h with | int _ n _ => exact ⟨n, rfl⟩
theorem sh_str {x : T} (h : HasSh x .str) : ∃ s : ByteArray, x = .str s ∧ s.size ≤ maxLen := by cases h with | str s h => exact ⟨s, rfl, h⟩
theorem sh_sl {x : T} {l : List Sh} (h : HasSh x (.sl l)) : ∃ es, x = .sl false es ∧ es.length ≤ maxLen ∧ ∀ e ∈ es, Shs e l := by cases h with | sl es _ h hs => exact ⟨es, rfl, h, hs⟩
theorem shW_inv {xs : List T} (h : Shs xs shW) : ∃ a : Wt, wtT a = xs := by
 obtain ⟨_, _, rfl, g1, k1⟩ := sh_cons h; obtain ⟨a, rfl⟩ := sh_int g1
 obtain ⟨_, _, rfl, g2, k2⟩ := sh_cons k1; obtain ⟨b, rfl⟩ := sh_int g2
 obtain rfl := sh_nil k2
 exact ⟨(a, b), rfl⟩
theorem shS_inv {xs : List T} (h : Shs xs shS) : ∃ a : Sn, a.T = xs := by
 obtain ⟨_, _, rfl, g1, k1⟩ := sh_cons h; obtain ⟨a, rfl⟩ := sh_int g1
 obtain ⟨_, _, rfl, g2, k2⟩ := sh_cons k1; obtain ⟨b, rfl⟩ := sh_int g2
 obtain ⟨_, _, rfl, g3, k3⟩ := sh_cons k2; obtain ⟨c, rfl⟩ := sh_int g3
 obtain ⟨_, _, rfl, g4, k4⟩ := sh_cons k3; obtain ⟨d, rfl⟩ := sh_int g4
 obtain ⟨_, _, rfl, g5, k5⟩ := sh_cons k4; obtain ⟨e, rfl⟩ := sh_int g5
 obtain ⟨_, _, rfl, g6, k6⟩ := sh_cons k5; obtain ⟨f, rfl⟩ := sh_int g6
 obtain rfl := sh_nil k6
 exact ⟨⟨a, b, ⟨c, d, e, f⟩⟩, rfl⟩
theorem shL_inv {xs : List T} (h : Shs xs shL) : ∃ l : Lk, l.T false = xs ∧ l.nm.size ≤ maxLen ∧ l.ws.length ≤ maxLen := by
 obtain ⟨_, _, rfl, g1, k1⟩ := sh_cons h; obtain ⟨s, rfl, hs⟩ := sh_str g1
 obtain ⟨_, _, rfl, g2, k2⟩ := sh_cons k1; obtain ⟨b, rfl⟩ := sh_int g2
 obtain ⟨_, _, rfl, g3, k3⟩ := sh_cons k2; obtain ⟨c, rfl⟩ := sh_int g3
 obtain ⟨_, _, rfl, g4, k4⟩ := sh_cons k3; obtain ⟨d, rfl⟩ := sh_int g4
 obtain ⟨_, _, rfl, g5, k5⟩ := sh_cons k4; obtain ⟨es, rfl, hl, hW⟩ := sh_sl g5
 obtain rfl := sh_nil k5
 obtain ⟨L, rfl⟩ := rows_of (f := wtT) es (fun e he => shW_inv (hW e he))
 rw [List.length_map] at hl
 exact ⟨⟨s, b, c, d, L⟩, rfl, hs, hl⟩
theorem wtT_inj {L K : List Wt} (h : L.map wtT = K.map wtT) : L = K := by
 refine List.map_inj_right (fun a b e => ?_) |>.1 h
 unfold wtT at e
 simp only [List.cons.injEq, T.int.injEq, true_and, and_true] at e
 exact Prod.ext e.1 e.2
theorem LkT_inj {l k : Lk} (h : l.T false = k.T false) : l = k := by
 unfold Lk.T at h
 simp only [List.cons.injEq, T.str.injEq, T.int.injEq, T.sl.injEq, true_and, and_true] at h
 obtain ⟨a1, a2, a3, a4, a5⟩ := h
 cases l; cases k
 simp only [Lk.mk.injEq]
 exact ⟨a1, a2, a3, a4, wtT_inj a5⟩
theorem shT_inv {xs : List T} (h : Shs xs shT) : ∃ t : Tb, t.T false false false = xs ∧ t.lk.length ≤ maxLen ∧ (∀ i, i < t.lk.length → (t.lk.getD i Lk0).nm.size ≤ maxLen ∧ (t.lk.getD i Lk0).ws.length ≤ maxLen) ∧ t.sn.length ≤ maxLen := by
 obtain ⟨_, _, rfl, g1, k1⟩ := sh_cons h; obtain ⟨a, rfl⟩ := sh_int g1
 obtain ⟨_, _, rfl, g2, k2⟩ := sh_cons k1; obtain ⟨b, rfl⟩ := sh_int g2
 obtain ⟨_, _, rfl, g3, k3⟩ := sh_cons k2; obtain ⟨es, rfl, hl1, hL⟩ := sh_sl g3
 obtain ⟨_, _, rfl, g4, k4⟩ := sh_cons k3; obtain ⟨ks, rfl, hl2, hS⟩ := sh_sl g4
 obtain rfl := sh_nil k4
 obtain ⟨L, rfl⟩ := rows_of (f := Lk.T false) es (fun e he => let ⟨r, q, _⟩ := shL_inv (hL e he); ⟨r, q⟩)
 obtain ⟨K, rfl⟩ := rows_of (f := Sn.T) ks (fun e he => shS_inv (hS e he))
 rw [List.length_map] at hl1 hl2
 refine ⟨⟨a, b, L, K⟩, rfl, hl1, fun i hi => ?_, hl2⟩
 obtain ⟨r, q1, q2⟩ := shL_inv (hL ((L.getD i Lk0).T false) (List.mem_map.2 ⟨_, by rw [List.getD_eq_getElem?_getD, List.getElem?_eq_getElem hi]; exact List.getElem_mem _, rfl⟩))
 rw [LkT_inj q1] at q2
 exact q2
def shR : List Sh := [.int .i64, .int .i64, .int .i64, .int .i64, .str]
theorem shR_inv {xs : List T} (h : Shs xs shR) : ∃ r : Rq, r.T = xs ∧ r.nm.size ≤ maxLen := by
 obtain ⟨_, _, rfl, g1, k1⟩ := sh_cons h; obtain ⟨a, rfl⟩ := sh_int g1
 obtain ⟨_, _, rfl, g2, k2⟩ := sh_cons k1; obtain ⟨b, rfl⟩ := sh_int g2
 obtain ⟨_, _, rfl, g3, k3⟩ := sh_cons k2; obtain ⟨c, rfl⟩ := sh_int g3
 obtain ⟨_, _, rfl, g4, k4⟩ := sh_cons k3; obtain ⟨d, rfl⟩ := sh_int g4
 obtain ⟨_, _, rfl, g5, k5⟩ := sh_cons k4; obtain ⟨s, rfl, hs⟩ := sh_str g5
 obtain rfl := sh_nil k5
 exact ⟨⟨a, b, c, d, s⟩, rfl, hs⟩
theorem apply_call (W : World) (v u : Value) (t : Tb) (now : Int) (r : Rq) (hm : t.lk.length ≤ maxLen) (hz : ∀ i, i < t.lk.length → (t.lk.getD i Lk0).nm.size ≤ maxLen ∧ (t.lk.getD i Lk0).ws.length ≤ maxLen) (ha : t.sn.length ≤ maxLen) (hr : r.nm.size ≤ maxLen)
  (hv : AR (fun b => b < W.heap.size) W (.agg (t.T false false false)) v) (hu : AR (fun b => b < W.heap.size) W (.agg r.T) u) :
  Calls Try.prog 8 #[v, .int .i64 now, u] W fun e W' => e = .returned (.bool true) ∧ RowKit.Below W.heap.size W W' := by
 have h := appAll t now r false false hm hz ha hr
 unfold V.Pure at h
 refine Calls.mono (h.2 (fun b => b < W.heap.size) W #[v, .int .i64 now, u] (fun _ h => h) (fun g cs hg => by cases hg) rfl (fun i a w h1 h2 => ?_)) ?_
 ·match i with
  | 0 =>
   have h1 : some (A.agg (t.T false false false)) = some a := h1
   have h2 : some v = some w := h2
   cases h1; cases h2; exact hv
  | 1 =>
   have h1 : some (A.one (.int .i64 now)) = some a := h1
   have h2 : some (Value.int .i64 now) = some w := h2
   cases h1; cases h2; exact .one _ _ (.int _ _)
  | 2 =>
   have h1 : some (A.agg r.T) = some a := h1
   have h2 : some u = some w := h2
   cases h1; cases h2; exact hu
  | i + 3 => simp at h1
 ·rintro e W' ⟨w, rfl, hb, hr⟩
  refine ⟨?_, hb⟩
  cases hr with
  | one _ _ hr => cases hr with | one _ _ hr => cases hr; rfl
  | tup _ _ hne => exact absurd rfl hne
end Go.Proofs.Ytknnniaoboaghaa
namespace Go.Proofs.Ytknnniaoboaghaa.apply
open Go.ChangeShapes Go.WideShapes Go.ChangeAt Go.RowKit Go.ChangeMaps
set_option linter.unusedVariables false
set_option maxRecDepth 20000
theorem own : ownKnob Try.prog.godebug = none := by kernel_rfl
theorem laidOut : laidOutB Try.prog = true := by kernel_rfl
theorem under25 : Try.prog.underlying 25 = some (.struct (Try.prog.fieldsOf 25)) := by kernel_rfl
theorem under3 : Try.prog.underlying 3 = some (.int .i64) := by kernel_rfl
theorem under4 : Try.prog.underlying 4 = some .bool := by kernel_rfl
theorem sh25 : V.shOf Try.prog 8 25 = some shT := by kernel_rfl
theorem under74 : Try.prog.underlying 74 = some (.struct (Try.prog.fieldsOf 74)) := by kernel_rfl
theorem sh74 : V.shOf Try.prog 8 74 = some shR := by kernel_rfl
theorem open_arg {H : Type} {enc : TypeId × Value → H} {W : World} {t : TypeId} {fs : Array Field} {l : List V.Sh} {v : Value} {d : DataW H} {ps : List MemPlace} (hu : Try.prog.underlying t = some (.struct fs)) (hsh : V.shOf Try.prog 8 t = some l)
  (hval : Value.okWide Try.prog W .any 0 t v) (h : DataW.Trod enc Try.prog W 0 (fun _ => true) true t v d ps) :
  ∃ xs : List V.T, V.Shs xs l ∧ V.AR (fun b => b < W.heap.size) W (.agg xs) v := by
 obtain ⟨cs, rfl, _⟩ := okWide_struct hu hval
 obtain ⟨fuel, hf⟩ := h
 obtain ⟨xs, h1, h2, h3⟩ := V.open_gen 8 fuel t _ _ l hsh hf
 have e : (Value.agg cs).cells.toList = cs.toList := rfl
 rw [e] at h1 h3
 exact ⟨xs, h2, .agg xs cs (by simpa using h1) (fun i x u g1 g2 => h3 i x u g1 (by simpa using g2))⟩
set_option maxRecDepth 100000 in
theorem lifted (os : Os) (started : os.Started) (H : Type) (enc : TypeId × Value → H) :
  ReturnsInHanded {} Try.checked os 8 .any (Rows.fnExactApplyRequestSpec.pre6 enc Try.prog Try.f8 Rows.fnExactApplyRequestRow.domain false) (Rows.fnExactApplyRequestSpec.post enc Try.prog Try.f8 false true false false) := by
 refine returnsInHanded_of_change (C := Try.checked) own started (by kernel_rfl) Try.func8
  (ChangeSpec.witness6 (enc := enc) (C := Try.checked) false ⟨#[], #[.agg #[.int .i64 0, .int .i64 0, .slice none 0 0, .slice none 0 0], .int .i64 0, .agg #[.int .i64 0, .int .i64 0, .int .i64 0, .int .i64 0, .string ⟨#[]⟩]], []⟩ 8 (by kernel_rfl) (by kernel_rfl) (by kernel_rfl) (by kernel_rfl)) ?_
 intro W base args ds gs before hval0 hW _ _
 have hval : ∀ (j : Nat) t v, Try.f8.params[j]? = some t → args[j]? = some v → Value.okWide Try.prog W .any base t v := hval0
 have hW' := hW
 obtain ⟨p, q, hA0, hV, rfl, _, _⟩ := hW
 have hA : DataW.TrodAll enc Try.prog W 0 (fun _ => true) true Try.f8.params.toList args.toList ds p := hA0
 rw [Try.params8] at hA hval
 obtain ⟨v0, v1, v2, d0, d1, d2, p0, p1, p2, rfl, rfl, rfl, h0, h1, h2⟩ := trodAll_three hA
 obtain ⟨rfl, rfl⟩ := trodVars_none hV
 obtain ⟨now, rfl, rfl, rfl, hs⟩ := open_int under3 (hval 1 3 v1 rfl rfl) h1
 clear hA0 hval0
 simp only [List.append_nil] at hW'
 have hlt : ∀ x ∈ p0 ++ p2, x.block < W.heap.size := fun x hx => by simpa using hW'.lt x (by simpa using hx)
 obtain ⟨xs, hx1, hx2⟩ := open_arg under25 sh25 (hval 0 25 v0 rfl rfl) h0
 obtain ⟨t, rfl, hm, hz, ha⟩ := shT_inv hx1
 obtain ⟨ys, hy1, hy2⟩ := open_arg under74 sh74 (hval 2 74 v2 rfl rfl) h2
 obtain ⟨r, rfl, hr⟩ := shR_inv hy1
 refine (apply_call W v0 v2 t now r hm hz ha hr hx2 hy2).mono fun e W' ⟨he, hb⟩ => ?_
 subst he
 refine ⟨_, rfl, _, _, _, [], p0 ++ p2, [], hW', trodAll_mk1 (shut_bool under4 _), ?_, rfl, hb.frame _, fun h => by cases h⟩
 have := trodAll_mk3 (Below.trod laidOut (by kernel_rfl) (of_decide_eq_true (by kernel_rfl)) h0 hb (fun x hx => hlt x (by simp [hx]))) (shut_int (H := H) (enc := enc) (P := Try.prog) (w := W') (base := 0) (spare := fun b => decide (b < W.heap.size)) (held := true) under3 hs) (Below.trod laidOut (by kernel_rfl) (of_decide_eq_true (by kernel_rfl)) h2 hb (fun x hx => hlt x (by simp [hx])))
 rw [List.nil_append] at this
 exact this
theorem fnExactApplyRequest_holds : Rows.FnExactApplyRequestSaid :=
 OpenClaim.holds_of_wide 8 Try.f8 rfl rfl rfl rfl rfl rfl rfl ⟨rfl, rfl, rfl, rfl, rfl⟩ rfl rfl rfl rfl rfl (by kernel_rfl) Try.func8 (by kernel_rfl)
  (of_decide_eq_true (by kernel_rfl)) (by unfold Func.isWrapper; first | (rw [if_pos (by decide +kernel)]; kernel_rfl) | (rw [if_neg (by decide +kernel)]; exact ⟨rfl, rfl⟩))
  (fun os started H enc _ => lifted os started H enc)
end Go.Proofs.Ytknnniaoboaghaa.apply
