import Derived.Test.YtcafccndgpopkaaDoorU10
namespace Go.Proofs.YtcafccndgpopkaaDoor
open Go.V
set_option linter.unusedVariables false
set_option linter.unusedSimpArgs false
set_option maxRecDepth 20000
set_option maxHeartbeats 4000000

/-! spec's count of replies: the same answer as impl's. -/
theorem eqAn (x y : An) : eqV En.P 10000 42 (.agg x.V) (.agg y.V) = some (x.kd == y.kd && (x.tk == y.tk && (x.hd == y.hd && (x.ex == y.ex && true)))) := by kernel_rfl
theorem goD_cons (n c s : Int) (f : An → List Int) (r : Rp) (R : List Rp) : goD n c s f (r :: R) = if skp n c s f r then goD n c s f R else if IntKind.i64.wrap ((n - 1).tdiv 3) < ((f r.an).length + 1 : Nat) then some r.an else goD n c s (addF f r) R := rfl
theorem anEq {x y : An} : (x.kd == y.kd && (x.tk == y.tk && (x.hd == y.hd && (x.ex == y.ex && true)))) = true ↔ x = y := by
  obtain ⟨a, b, c, d⟩ := x; obtain ⟨a', b', c', d'⟩ := y
  simp only [Bool.and_eq_true, beq_iff_eq, and_true, An.mk.injEq]
/-- A right reply to just this call. -/
def okR (n c s : Int) (r : Rp) : Prop := r.fits n ∧ r.cl = c ∧ r.st = s
noncomputable instance (n c s : Int) (r : Rp) : Decidable (okR n c s r) := Classical.propDecidable _
noncomputable def stp (n c s : Int) (a : An) (r : Rp) (acc : List Int) : List Int := if okR n c s r ∧ r.an = a ∧ r.nd ∉ acc then acc ++ [r.nd] else acc
/-- The nodes that gave an answer, by the first k replies. -/
noncomputable def frmT (n c s : Int) (L : List Rp) (a : An) : Nat → List Int
  | 0 => []
  | k + 1 => stp n c s a (L.getD k Rp0) (frmT n c s L a k)
theorem frmT_succ (n c s : Int) (L : List Rp) (a : An) (k : Nat) : frmT n c s L a (k + 1) = stp n c s a (L.getD k Rp0) (frmT n c s L a k) := rfl
theorem stp_le (n c s : Int) (a : An) (r : Rp) (acc : List Int) : (stp n c s a r acc).length ≤ acc.length + 1 := by
  unfold stp; split
  · rw [List.length_append]; exact Nat.le_refl _
  · exact Nat.le_succ _
theorem frmT_le (n c s : Int) (L : List Rp) (a : An) : ∀ k, (frmT n c s L a k).length ≤ k
  | 0 => Nat.le_refl _
  | k + 1 => by have h1 := stp_le n c s a (L.getD k Rp0) (frmT n c s L a k); have h2 := frmT_le n c s L a k; rw [frmT_succ]; omega
def qn (n : Int) : Int := IntKind.i64.wrap ((n - 1).tdiv 3)
noncomputable def FF (n c s : Int) (L : List Rp) (i : Nat) : An → List Int := fun a => frmT n c s L a i
theorem qn_nn {n : Int} (hn : nodes n) : 0 ≤ qn n := by rcases hn with rfl | rfl | rfl <;> decide
/-- One more reply, on impl's side. -/
theorem go_step {n c s : Int} (hn : nodes n) {L : List Rp} {i : Nat} (hi : i < L.length) (hq : ∀ a, ((FF n c s L i a).length : Int) ≤ qn n) :
    goD n c s (FF n c s L i) (L.drop i) = if qn n < ((frmT n c s L (L.getD i Rp0).an (i + 1)).length : Int) then some (L.getD i Rp0).an else goD n c s (FF n c s L (i + 1)) (L.drop (i + 1)) := by
  rw [drop_get hi, goD_cons]
  by_cases hs : skp n c s (FF n c s L i) (L.getD i Rp0)
  · have hno : ∀ a, ¬ (okR n c s (L.getD i Rp0) ∧ (L.getD i Rp0).an = a ∧ (L.getD i Rp0).nd ∉ frmT n c s L a i) := by
      rintro a ⟨h1, rfl, h3⟩
      rcases hs with h | h | h | h
      · exact h h1.2.1
      · exact h h1.2.2
      · exact h ((fits_OK hn _).1 h1.1)
      · exact h3 h
    have e : ∀ a, frmT n c s L a (i + 1) = frmT n c s L a i := fun a => by rw [frmT_succ]; unfold stp; rw [if_neg (hno a)]
    rw [if_pos hs, e, if_neg (by have := hq (L.getD i Rp0).an; unfold FF at this; omega)]
    have e2 : FF n c s L (i + 1) = FF n c s L i := funext fun a => e a
    rw [e2]
  · have hk : okR n c s (L.getD i Rp0) ∧ (L.getD i Rp0).nd ∉ frmT n c s L (L.getD i Rp0).an i := by
      unfold skp at hs
      refine ⟨⟨(fits_OK hn _).2 ?_, ?_, ?_⟩, fun h => hs (.inr (.inr (.inr h)))⟩
      · exact Classical.byContradiction fun h => hs (.inr (.inr (.inl h)))
      · exact Classical.byContradiction fun h => hs (.inl h)
      · exact Classical.byContradiction fun h => hs (.inr (.inl h))
    have e : frmT n c s L (L.getD i Rp0).an (i + 1) = frmT n c s L (L.getD i Rp0).an i ++ [(L.getD i Rp0).nd] := by
      rw [frmT_succ]; unfold stp; rw [if_pos ⟨hk.1, rfl, hk.2⟩]
    have e2 : FF n c s L (i + 1) = addF (FF n c s L i) (L.getD i Rp0) := by
      funext b
      unfold FF addF
      by_cases hb : b = (L.getD i Rp0).an
      · rw [if_pos hb, hb, e]
      · rw [if_neg hb, frmT_succ]; unfold stp; rw [if_neg (fun h => hb h.2.1.symm)]
    rw [if_neg hs, e, List.length_append, e2]
    rfl
theorem qn_step {n c s : Int} {L : List Rp} {i : Nat} (hq : ∀ a, ((FF n c s L i a).length : Int) ≤ qn n) (h : ¬ qn n < ((frmT n c s L (L.getD i Rp0).an (i + 1)).length : Int)) : ∀ a, ((FF n c s L (i + 1) a).length : Int) ≤ qn n := fun a => by
  unfold FF
  by_cases ha : a = (L.getD i Rp0).an
  · rw [ha]; omega
  · have : frmT n c s L a (i + 1) = frmT n c s L a i := by rw [frmT_succ]; unfold stp; rw [if_neg (fun h => ha h.2.1.symm)]
    rw [this]; exact hq a
theorem stp_skip {n c s : Int} {a : An} {r : Rp} {acc : List Int} (h : ¬ (okR n c s r ∧ r.an = a ∧ r.nd ∉ acc)) : stp n c s a r acc = acc := if_neg h
theorem stp_hit {n c s : Int} {a : An} {r : Rp} {acc : List Int} (h : okR n c s r ∧ r.an = a ∧ r.nd ∉ acc) : stp n c s a r acc = acc ++ [r.nd] := if_pos h
attribute [irreducible] frmT
theorem s54 (n c s : Int) (nn : Bool) (L : List Rp) (hn : nodes n) (hL : L.length ≤ 1000) : Pure En 54 [.one (.int .i64 n), .one (.int .i64 c), .one (.int .i64 s), .one (.sl nn (L.map Rp.T))] [.agg ((dec n c s L).getD An0).T, .one (.bool (dec n c s L).isSome)] := by
  have hl : (L.map Rp.T).length = L.length := List.length_map ..
  refine Pure.of_wp Tryd.func54 rfl (Nat.le_of_ble_eq_true rfl) ?_
  refine wSeq ?_
  refine wRegion ?_
  refine ral rfl rfl rfl rfl rfl rfl ?_
  refine raB rfl rfl rfl rfl rfl ?_
  refine rNil ?_
  refine qSeq ?_
  refine wSeq ?_
  refine wSeq ?_
  refine wRegion ?_
  refine raI rfl rfl rfl rfl rfl ?_
  refine rNil ?_
  refine qSeq ?_
  refine wBlock ?_
  refine wLoop ?_
  refine loopGo (fun (a : Nat × Nat) => [.int .i64 n, .int .i64 c, .int .i64 s, .sl false nn (L.map Rp.T), .unk, .unk, .unk, .unk, .ptr 0 0 0, .unk, .int .i64 a.1]) (fun (a : Nat × Nat) => hp [(0, ⟨[An0.V], 4, 42⟩)]) (fun (a : Nat × Nat) => a.2) (fun (a : Nat × Nat) => a.1 ≤ L.length ∧ 1 ≤ a.2 ∧ (∀ b, ((FF n c s L a.1 b).length : Int) ≤ qn n) ∧ goD n c s (FF n c s L a.1) (L.drop a.1) = dec n c s L) (fun (a : Nat × Nat) => L.length - a.1) (0, 1) ?_ ?_ ?_ ?_ ?_
  · exact ⟨Nat.zero_le _, Nat.le_refl _, fun b => by unfold FF; unfold frmT; exact qn_nn hn, by unfold dec; unfold FF; unfold frmT; rfl⟩
  · (repeat first | exact LE.nil _ | refine LE.unk _ _ ?_ | refine LE.eq _ _ _ rfl ?_)
  · (repeat first | exact lessH0 | (refine lessHc ?_ ?_; (first | (first | ((simp (disch := omega) only [↓app0, ↓appC, ↓updS, ↓updN, ↓hpS, ↓hpN]) <;> first | rfl | assumption) | assumption | rfl) | fail)))
  · exact Nat.le_refl _
  intro ⟨i, N⟩ hI ih
  dsimp only at hI ⊢
  have hO := hI
  have ihO := ih
  refine lStep ?_
  refine wSeq ?_
  refine wSeq ?_
  refine wRegion ?_
  refine rmI rfl rfl rfl rfl rfl ?_
  refine rmL rfl rfl rfl rfl rfl ?_
  refine rll rfl rfl rfl rfl rfl rfl ?_
  refine rlt rfl rfl rfl rfl rfl rfl ?_ ?_ <;> intro h2_3
  · refine rNil ?_
    refine qSeq ?_
    refine wT rfl ?_
    refine wSkip ?_
    refine qSeq ?_
    refine wSeq ?_
    refine wBlock ?_
    refine wSeq ?_
    refine wRegion ?_
    refine rbs (es := []) rfl rfl rfl rfl (Nat.succ_ne_zero _) (Nat.le_of_ble_eq_true rfl) rfl rfl rfl rfl rfl ?_
    refine raV rfl rfl rfl rfl rfl ?_
    refine rNil ?_
    refine qSeq ?_
    refine wSeq ?_
    refine wSeq ?_
    refine wRegion ?_
    refine raI rfl rfl rfl rfl rfl ?_
    refine rNil ?_
    refine qSeq ?_
    refine wBlock ?_
    refine wLoop ?_
    refine loopGo (fun (a : Nat × Nat × Nat × Nat) => [.int .i64 n, .int .i64 c, .int .i64 s, .sl false nn (L.map Rp.T), .unk, .unk, .unk, .unk, .ptr 0 0 0, .unk, .int .i64 i, .view a.2.2.1 0 a.2.1, .int .i64 a.1]) (fun (a : Nat × Nat × Nat × Nat) => hp [(0, ⟨[An0.V], 4, 42⟩), (a.2.2.1, ⟨(frmT n c s L (L.getD i Rp0).an a.1).map iV, 1, 3⟩)]) (fun (a : Nat × Nat × Nat × Nat) => a.2.2.2) (fun (a : Nat × Nat × Nat × Nat) => a.1 ≤ i + 1 ∧ (0 < a.2.2.1 ∧ a.2.2.1 < a.2.2.2) ∧ N ≤ a.2.2.2 ∧ (frmT n c s L (L.getD i Rp0).an a.1).length = a.2.1) (fun (a : Nat × Nat × Nat × Nat) => i + 1 - a.1) (0, 0, N, N + 1) ?_ ?_ ?_ ?_ ?_
    · exact ⟨Nat.zero_le _, ⟨by dsimp only; omega, by dsimp only; omega⟩, by dsimp only; omega, by dsimp only; unfold frmT; rfl⟩
    · (repeat first | exact LE.nil _ | refine LE.unk _ _ ?_ | refine LE.eq _ _ _ rfl ?_)
    · dsimp only
      (repeat first | exact lessH0 | (refine lessHc ?_ ?_; (first | (first | ((simp (disch := omega) only [↓app0, ↓appC, ↓updS, ↓updN, ↓hpS, ↓hpN]) <;> first | rfl | assumption) | assumption | rfl) | (first | (focus (((simp (disch := omega) only [app, upd, hp, if_pos, if_neg])); exact congrArg (fun z => some (Blk.mk (List.map iV z) 1 3)) (show [] = frmT n c s L _ 0 by unfold frmT; rfl)))))))
    · exact Nat.le_refl _
    intro ⟨k, ln, id, m2⟩ hI ih
    dsimp only at hI ⊢
    have hle := frmT_le n c s L (L.getD i Rp0).an k
    refine lStep ?_
    refine wSeq ?_
    refine wSeq ?_
    refine wRegion ?_
    refine rmI rfl rfl rfl rfl rfl ?_
    refine rmI rfl rfl rfl rfl rfl ?_
    refine rle rfl rfl rfl rfl rfl rfl ?_ ?_ <;> intro h6_2
    · refine rNil ?_
      refine qSeq ?_
      refine wT rfl ?_
      refine wSkip ?_
      refine qSeq ?_
      refine wSeq ?_
      refine wBlock ?_
      refine wSeq ?_
      refine wRegion ?_
      refine rmL rfl rfl rfl rfl rfl ?_
      refine rmI rfl rfl rfl rfl rfl ?_
      (apply rixl rfl rfl rfl rfl; (first | omega | assumption | (focus (simp; omega))); (first | rfl | assumption | (exact mapGet Rp.T Rp0 (by omega))); rfl; rfl; rfl; rfl)
      refine rlir (vs := [.int _ _, .int _ _, .int _ _, .int _ _, .int _ _, .int _ _, .int _ _, .str _]) rfl rfl rfl (Nat.le_of_ble_eq_true rfl) rfl rfl rfl rfl ?_
      refine ral rfl rfl rfl rfl rfl rfl ?_
      (apply rst (u := .agg [.int _ _, .int _ _, .int _ _, .int _ _, .int _ _, .int _ _, .int _ _, .str _]) rfl rfl rfl; (first | ((simp (disch := omega) only [↓app0, ↓appC, ↓updS, ↓updN, ↓hpS, ↓hpN]) <;> first | rfl | assumption) | assumption | rfl); rfl; rfl; rfl; rfl; rfl; (exact Nat.le_of_ble_eq_true rfl); rfl; rfl; rfl)
      refine rNil ?_
      refine qSeq ?_
      refine wSeq ?_
      refine wDraw [0, 0, 3, 7, 15, 31, 15, 127, 255, 511, 1023, 2047, 1023, 8191, 16383, 32767, 65535, 131071, 65535, 65535, 851967, 1900543, 3997695, 8388607, 16777215, 33554431, 67108863, 67108863, 201326591, 536870911, 1073741823, 2147483647] rfl (by decide +kernel) ?_
      refine dmI rfl rfl rfl rfl rfl ?_
      (apply dlr (vs := [.int _ _, .int _ _, .int _ _, .int _ _, .int _ _, .int _ _, .int _ _, .str _]) rfl rfl; (first | ((simp (disch := omega) only [↓app0, ↓appC, ↓updS, ↓updN, ↓hpS, ↓hpN]) <;> first | rfl | assumption) | assumption | rfl); rfl; rfl; (exact Nat.le_of_ble_eq_true rfl); rfl; rfl; rfl; rfl)
      refine dclP (s53 n (L.getD k Rp0)) rfl rfl rfl rfl rfl rfl ?_ ?_ <;> intro h9_2
      · refine dmB rfl rfl rfl rfl rfl ?_
        refine dfa (off := 1) (s := 1) (r := false) rfl rfl rfl (Nat.succ_ne_zero _) rfl rfl rfl ?_
        (apply dlc (v := .int _ _) rfl rfl; (first | ((simp (disch := omega) only [↓app0, ↓appC, ↓updS, ↓updN, ↓hpS, ↓hpN]) <;> first | rfl | assumption) | assumption | rfl); rfl; rfl; rfl; rfl; rfl; rfl)
        refine dmI rfl rfl rfl rfl rfl ?_
        refine deq rfl rfl rfl rfl rfl rfl ?_ ?_ <;> intro h9_7
        · refine dpk (e := true) rfl rfl rfl rfl rfl rfl ?_
          refine dmB rfl rfl rfl rfl rfl ?_
          refine dfa (off := 2) (s := 1) (r := false) rfl rfl rfl (Nat.succ_ne_zero _) rfl rfl rfl ?_
          (apply dlc (v := .int _ _) rfl rfl; (first | ((simp (disch := omega) only [↓app0, ↓appC, ↓updS, ↓updN, ↓hpS, ↓hpN]) <;> first | rfl | assumption) | assumption | rfl); rfl; rfl; rfl; rfl; rfl; rfl)
          refine dmI rfl rfl rfl rfl rfl ?_
          refine deq rfl rfl rfl rfl rfl rfl ?_ ?_ <;> intro h9_13
          · refine dpk (e := true) rfl rfl rfl rfl rfl rfl ?_
            refine dmB rfl rfl rfl rfl rfl ?_
            refine dfa (off := 3) (s := 4) (r := true) rfl rfl rfl (Nat.succ_ne_zero _) rfl rfl rfl ?_
            (apply dlr (vs := [.int _ _, .int _ _, .int _ _, .int _ _]) rfl rfl; (first | ((simp (disch := omega) only [↓app0, ↓appC, ↓updS, ↓updN, ↓hpS, ↓hpN]) <;> first | rfl | assumption) | assumption | rfl); rfl; rfl; (exact Nat.le_of_ble_eq_true rfl); rfl; rfl; rfl; rfl)
            refine dmL rfl rfl rfl rfl rfl ?_
            refine dmI rfl rfl rfl rfl rfl ?_
            (apply dixl rfl rfl rfl rfl; (first | omega | assumption | (focus (simp; omega))); (first | rfl | assumption | (exact mapGet Rp.T Rp0 (by omega))); rfl; rfl; rfl; rfl)
            refine dfai (off := 3) (s := 4) (r := true) rfl rfl rfl (Nat.succ_ne_zero _) rfl rfl rfl rfl ?_
            refine dlir (vs := [.int _ _, .int _ _, .int _ _, .int _ _]) rfl rfl rfl (Nat.le_of_ble_eq_true rfl) rfl rfl rfl rfl ?_
            refine dSeql rfl rfl rfl (by kernel_rfl) (eqAn (L.getD ((k : Nat) : Int).toNat Rp0).an (L.getD ((i : Nat) : Int).toNat Rp0).an) rfl rfl rfl ?_ ?_ <;> intro h9_23
            · refine dpk (e := true) rfl rfl rfl rfl rfl rfl ?_
              refine dmB rfl rfl rfl rfl rfl ?_
              refine dmV rfl rfl rfl rfl rfl ?_
              refine dfa (off := 0) (s := 1) (r := false) rfl rfl rfl (Nat.succ_ne_zero _) rfl rfl rfl ?_
              (apply dlc (v := .int _ _) rfl rfl; (first | ((simp (disch := omega) only [↓app0, ↓appC, ↓updS, ↓updN, ↓hpS, ↓hpN]) <;> first | rfl | assumption) | assumption | rfl); rfl; rfl; rfl; rfl; rfl; rfl)
              apply dclSP [id] (s79 true (frmT n c s L (L.getD i Rp0).an k) _ (by omega)) rfl rfl rfl
              · exact SnapL.cons _ _ _ _ (.one _ _ (snapView (b := ⟨(frmT n c s L (L.getD i Rp0).an k).map iV, 1, 3⟩) ((frmT n c s L (L.getD i Rp0).an k).map iT) (List.mem_singleton.2 rfl) (by (first | ((simp (disch := omega) only [↓app0, ↓appC, ↓updS, ↓updN, ↓hpS, ↓hpN]) <;> first | rfl | assumption) | assumption | rfl)) (rowsI _) (by rw [List.length_map]; omega))) (SnapL.cons _ _ _ _ (.one _ _ (.int _ _)) SnapL.nil)
              · rfl
              · rfl
              · rfl
              all_goals intro h9_29
              · refine dnot (c := true) rfl rfl rfl rfl rfl ?_
                refine dpk (e := false) rfl rfl rfl rfl rfl rfl ?_
                refine dNilR 32 [0, 0, 1, 1, 0, 0, 0, 0, 0, 0, 0, 0, 0, 0, 1, 0, 0, 0, 0, 0, 1, 0, 0, 0, 0, 0, 1, 0, 0, 0, 1, 0] [] rfl rfl (by decide +kernel) trivial ?_
                refine qSeq ?_
                refine wF rfl ?_
                refine wSkip ?_
                refine qBlock ?_
                refine qSeq ?_
                refine wRegion ?_
                refine rmI rfl rfl rfl rfl rfl ?_
                refine raddF rfl rfl rfl ?_ ?_ rfl rfl rfl ?_
                · (first | omega | (unfold nodes at hn; omega))
                · (first | omega | (unfold nodes at hn; omega))
                refine raI rfl rfl rfl rfl rfl ?_
                refine rNil ?_
                refine qLoop ?_
                first
                  | (have e4 : (frmT n c s L (L.getD i Rp0).an k) = (frmT n c s L (L.getD i Rp0).an (k + 1)) := by
                       rw [frmT_succ, stp_skip]
                       rintro ⟨⟨w1, w2, w3⟩, w4, w5⟩
                       first | contradiction | exact absurd w2 h9_7 | exact absurd w3 h9_13 | (rw [Int.toNat_natCast, Int.toNat_natCast] at h9_23; rw [anEq.2 w4] at h9_23; cases h9_23) | exact absurd h9_29 w5 | omega
                     exact wlH (ih (k + 1, ln, id, m2 + 1) ⟨by dsimp only; omega, by dsimp only; omega, by dsimp only; omega, by dsimp only; rw [← e4]; exact hI.2.2.2⟩ (by dsimp only; omega)) (by (repeat first | exact LE.nil _ | refine LE.unk _ _ ?_ | refine LE.eq _ _ _ rfl ?_)) (by dsimp only; (repeat first | exact lessH0 | (refine lessHc ?_ ?_; (first | (first | ((simp (disch := omega) only [↓app0, ↓appC, ↓updS, ↓updN, ↓hpS, ↓hpN]) <;> first | rfl | assumption) | assumption | rfl) | (first | (focus (((simp (disch := omega) only [app, upd, hp, if_pos, if_neg])); exact congrArg (fun z => some (Blk.mk (List.map iV z) 1 3)) e4)) | (focus (((simp (disch := omega) only [app, upd, hp, if_pos, if_neg])); exact congrArg (fun z => some (Blk.mk z 1 3)) e5))))))) (Nat.le_refl _))
                  | (have e3 : (frmT n c s L (L.getD i Rp0).an (k + 1)) = (frmT n c s L (L.getD i Rp0).an k) ++ [(L.getD k Rp0).nd] := by
                       rw [frmT_succ, stp_hit]
                       rw [Int.toNat_natCast, Int.toNat_natCast] at h9_23; exact ⟨⟨h9_2, h9_7, h9_13⟩, anEq.1 h9_23, h9_29⟩
                     have e5 : (frmT n c s L (L.getD i Rp0).an k).map iV ++ [[.int .i64 (L.getD k Rp0).nd]] = (frmT n c s L (L.getD i Rp0).an (k + 1)).map iV := by rw [e3, List.map_append]; rfl
                     exact wlH (ih (k + 1, ln + 1, m2 + 2, m2 + 3) ⟨by dsimp only; omega, by dsimp only; omega, by dsimp only; omega, by dsimp only; rw [e3, List.length_append, hI.2.2.2]; rfl⟩ (by dsimp only; omega)) (by (repeat first | exact LE.nil _ | refine LE.unk _ _ ?_ | refine LE.eq _ _ _ rfl ?_)) (by dsimp only; (repeat first | exact lessH0 | (refine lessHc ?_ ?_; (first | (first | ((simp (disch := omega) only [↓app0, ↓appC, ↓updS, ↓updN, ↓hpS, ↓hpN]) <;> first | rfl | assumption) | assumption | rfl) | (first | (focus (((simp (disch := omega) only [app, upd, hp, if_pos, if_neg])); exact congrArg (fun z => some (Blk.mk (List.map iV z) 1 3)) e4)) | (focus (((simp (disch := omega) only [app, upd, hp, if_pos, if_neg])); exact congrArg (fun z => some (Blk.mk z 1 3)) e5))))))) (Nat.le_refl _))
              · refine dnot (c := false) rfl rfl rfl rfl rfl ?_
                refine dpk (e := true) rfl rfl rfl rfl rfl rfl ?_
                refine dNilR 32 [0, 0, 1, 1, 0, 0, 0, 0, 0, 0, 0, 0, 0, 0, 1, 0, 0, 0, 0, 0, 1, 0, 0, 0, 0, 0, 1, 0, 0, 0, 1, 0] [] rfl rfl (by decide +kernel) trivial ?_
                refine qSeq ?_
                refine wT rfl ?_
                refine wRegion ?_
                refine rmV rfl rfl rfl rfl rfl ?_
                refine rfa (off := 0) (s := 1) (r := false) rfl rfl rfl (Nat.succ_ne_zero _) rfl rfl rfl ?_
                (apply rlc (v := .int _ _) rfl rfl; (first | ((simp (disch := omega) only [↓app0, ↓appC, ↓updS, ↓updN, ↓hpS, ↓hpN]) <;> first | rfl | assumption) | assumption | rfl); rfl; rfl; rfl; rfl; rfl; rfl)
                refine rbs (es := [[.int _ _]]) rfl rfl rfl rfl (Nat.succ_ne_zero _) (Nat.le_of_ble_eq_true rfl) rfl rfl rfl rfl rfl ?_
                (apply rap (s' := 8) (es := [[.int _ _]]) rfl rfl; (first | ((simp (disch := omega) only [↓app0, ↓appC, ↓updS, ↓updN, ↓hpS, ↓hpN]) <;> first | rfl | assumption) | assumption | rfl); rfl; rfl; (first | rfl | omega | (rw [List.length_map]; omega)); rfl; rfl; exact (Nat.succ_ne_zero _); (first | rfl | (apply srcView rfl; (first | ((simp (disch := omega) only [↓app0, ↓appC, ↓updS, ↓updN, ↓hpS, ↓hpN]) <;> first | rfl | assumption) | assumption | rfl); (first | exact Nat.le_refl _ | omega); rfl)); (first | rfl | assumption | (focus (simp; done)) | (focus (intro _ hc; rw [List.mem_singleton] at hc; subst hc; rfl)) | (intro _ _; simp_all)); (first | omega | (focus (simp only [List.length_cons, List.length_nil]; omega)) | ((show (_ + 1) * _ ≤ _); omega) | ((show _ + 1 ≤ _); omega) | exact Nat.le_of_ble_eq_true rfl); (first | omega | (focus (simp only [List.length_cons, List.length_nil]; omega)) | ((show (_ + 1) * _ ≤ _); omega) | ((show _ + 1 ≤ _); omega) | exact Nat.le_of_ble_eq_true rfl); rfl; rfl; rfl)
                refine raV rfl rfl rfl rfl rfl ?_
                refine rNil ?_
                refine qBlock ?_
                refine qSeq ?_
                refine wRegion ?_
                refine rmI rfl rfl rfl rfl rfl ?_
                refine raddF rfl rfl rfl ?_ ?_ rfl rfl rfl ?_
                · (first | omega | (unfold nodes at hn; omega))
                · (first | omega | (unfold nodes at hn; omega))
                refine raI rfl rfl rfl rfl rfl ?_
                refine rNil ?_
                refine qLoop ?_
                first
                  | (have e4 : (frmT n c s L (L.getD i Rp0).an k) = (frmT n c s L (L.getD i Rp0).an (k + 1)) := by
                       rw [frmT_succ, stp_skip]
                       rintro ⟨⟨w1, w2, w3⟩, w4, w5⟩
                       first | contradiction | exact absurd w2 h9_7 | exact absurd w3 h9_13 | (rw [Int.toNat_natCast, Int.toNat_natCast] at h9_23; rw [anEq.2 w4] at h9_23; cases h9_23) | exact absurd h9_29 w5 | omega
                     exact wlH (ih (k + 1, ln, id, m2 + 1) ⟨by dsimp only; omega, by dsimp only; omega, by dsimp only; omega, by dsimp only; rw [← e4]; exact hI.2.2.2⟩ (by dsimp only; omega)) (by (repeat first | exact LE.nil _ | refine LE.unk _ _ ?_ | refine LE.eq _ _ _ rfl ?_)) (by dsimp only; (repeat first | exact lessH0 | (refine lessHc ?_ ?_; (first | (first | ((simp (disch := omega) only [↓app0, ↓appC, ↓updS, ↓updN, ↓hpS, ↓hpN]) <;> first | rfl | assumption) | assumption | rfl) | (first | (focus (((simp (disch := omega) only [app, upd, hp, if_pos, if_neg])); exact congrArg (fun z => some (Blk.mk (List.map iV z) 1 3)) e4)) | (focus (((simp (disch := omega) only [app, upd, hp, if_pos, if_neg])); exact congrArg (fun z => some (Blk.mk z 1 3)) e5))))))) (Nat.le_refl _))
                  | (have e3 : (frmT n c s L (L.getD i Rp0).an (k + 1)) = (frmT n c s L (L.getD i Rp0).an k) ++ [(L.getD k Rp0).nd] := by
                       rw [frmT_succ, stp_hit]
                       rw [Int.toNat_natCast, Int.toNat_natCast] at h9_23; exact ⟨⟨h9_2, h9_7, h9_13⟩, anEq.1 h9_23, h9_29⟩
                     have e5 : (frmT n c s L (L.getD i Rp0).an k).map iV ++ [[.int .i64 (L.getD k Rp0).nd]] = (frmT n c s L (L.getD i Rp0).an (k + 1)).map iV := by rw [e3, List.map_append]; rfl
                     exact wlH (ih (k + 1, ln + 1, m2 + 2, m2 + 3) ⟨by dsimp only; omega, by dsimp only; omega, by dsimp only; omega, by dsimp only; rw [e3, List.length_append, hI.2.2.2]; rfl⟩ (by dsimp only; omega)) (by (repeat first | exact LE.nil _ | refine LE.unk _ _ ?_ | refine LE.eq _ _ _ rfl ?_)) (by dsimp only; (repeat first | exact lessH0 | (refine lessHc ?_ ?_; (first | (first | ((simp (disch := omega) only [↓app0, ↓appC, ↓updS, ↓updN, ↓hpS, ↓hpN]) <;> first | rfl | assumption) | assumption | rfl) | (first | (focus (((simp (disch := omega) only [app, upd, hp, if_pos, if_neg])); exact congrArg (fun z => some (Blk.mk (List.map iV z) 1 3)) e4)) | (focus (((simp (disch := omega) only [app, upd, hp, if_pos, if_neg])); exact congrArg (fun z => some (Blk.mk z 1 3)) e5))))))) (Nat.le_refl _))
            · refine dpk (e := false) rfl rfl rfl rfl rfl rfl ?_
              refine dmB rfl rfl rfl rfl rfl ?_
              refine dSkip rfl rfl rfl ?_
              refine dSkip rfl rfl rfl ?_
              refine dSkip rfl rfl rfl ?_
              refine dSkip rfl rfl rfl ?_
              refine dSkip rfl rfl rfl ?_
              refine dpk (e := false) rfl rfl rfl rfl rfl rfl ?_
              refine dNilR 32 [0, 0, 0, 0, 0, 0, 0, 0, 0, 0, 0, 0, 0, 0, 1, 0, 0, 0, 0, 0, 1, 0, 0, 0, 0, 0, 1, 0, 0, 0, 1, 0] [] rfl rfl (by decide +kernel) trivial ?_
              refine qSeq ?_
              refine wF rfl ?_
              refine wSkip ?_
              refine qBlock ?_
              refine qSeq ?_
              refine wRegion ?_
              refine rmI rfl rfl rfl rfl rfl ?_
              refine raddF rfl rfl rfl ?_ ?_ rfl rfl rfl ?_
              · (first | omega | (unfold nodes at hn; omega))
              · (first | omega | (unfold nodes at hn; omega))
              refine raI rfl rfl rfl rfl rfl ?_
              refine rNil ?_
              refine qLoop ?_
              first
                | (have e4 : (frmT n c s L (L.getD i Rp0).an k) = (frmT n c s L (L.getD i Rp0).an (k + 1)) := by
                     rw [frmT_succ, stp_skip]
                     rintro ⟨⟨w1, w2, w3⟩, w4, w5⟩
                     first | contradiction | exact absurd w2 h9_7 | exact absurd w3 h9_13 | (rw [Int.toNat_natCast, Int.toNat_natCast] at h9_23; rw [anEq.2 w4] at h9_23; cases h9_23) | exact absurd h9_29 w5 | omega
                   exact wlH (ih (k + 1, ln, id, m2 + 1) ⟨by dsimp only; omega, by dsimp only; omega, by dsimp only; omega, by dsimp only; rw [← e4]; exact hI.2.2.2⟩ (by dsimp only; omega)) (by (repeat first | exact LE.nil _ | refine LE.unk _ _ ?_ | refine LE.eq _ _ _ rfl ?_)) (by dsimp only; (repeat first | exact lessH0 | (refine lessHc ?_ ?_; (first | (first | ((simp (disch := omega) only [↓app0, ↓appC, ↓updS, ↓updN, ↓hpS, ↓hpN]) <;> first | rfl | assumption) | assumption | rfl) | (first | (focus (((simp (disch := omega) only [app, upd, hp, if_pos, if_neg])); exact congrArg (fun z => some (Blk.mk (List.map iV z) 1 3)) e4)) | (focus (((simp (disch := omega) only [app, upd, hp, if_pos, if_neg])); exact congrArg (fun z => some (Blk.mk z 1 3)) e5))))))) (Nat.le_refl _))
                | (have e3 : (frmT n c s L (L.getD i Rp0).an (k + 1)) = (frmT n c s L (L.getD i Rp0).an k) ++ [(L.getD k Rp0).nd] := by
                     rw [frmT_succ, stp_hit]
                     rw [Int.toNat_natCast, Int.toNat_natCast] at h9_23; exact ⟨⟨h9_2, h9_7, h9_13⟩, anEq.1 h9_23, h9_29⟩
                   have e5 : (frmT n c s L (L.getD i Rp0).an k).map iV ++ [[.int .i64 (L.getD k Rp0).nd]] = (frmT n c s L (L.getD i Rp0).an (k + 1)).map iV := by rw [e3, List.map_append]; rfl
                   exact wlH (ih (k + 1, ln + 1, m2 + 2, m2 + 3) ⟨by dsimp only; omega, by dsimp only; omega, by dsimp only; omega, by dsimp only; rw [e3, List.length_append, hI.2.2.2]; rfl⟩ (by dsimp only; omega)) (by (repeat first | exact LE.nil _ | refine LE.unk _ _ ?_ | refine LE.eq _ _ _ rfl ?_)) (by dsimp only; (repeat first | exact lessH0 | (refine lessHc ?_ ?_; (first | (first | ((simp (disch := omega) only [↓app0, ↓appC, ↓updS, ↓updN, ↓hpS, ↓hpN]) <;> first | rfl | assumption) | assumption | rfl) | (first | (focus (((simp (disch := omega) only [app, upd, hp, if_pos, if_neg])); exact congrArg (fun z => some (Blk.mk (List.map iV z) 1 3)) e4)) | (focus (((simp (disch := omega) only [app, upd, hp, if_pos, if_neg])); exact congrArg (fun z => some (Blk.mk z 1 3)) e5))))))) (Nat.le_refl _))
          · refine dpk (e := false) rfl rfl rfl rfl rfl rfl ?_
            refine dmB rfl rfl rfl rfl rfl ?_
            refine dSkip rfl rfl rfl ?_
            refine dSkip rfl rfl rfl ?_
            refine dSkip rfl rfl rfl ?_
            refine dSkip rfl rfl rfl ?_
            refine dSkip rfl rfl rfl ?_
            refine dSkip rfl rfl rfl ?_
            refine dSkip rfl rfl rfl ?_
            refine dSkip rfl rfl rfl ?_
            refine dpk (e := false) rfl rfl rfl rfl rfl rfl ?_
            refine dmB rfl rfl rfl rfl rfl ?_
            refine dSkip rfl rfl rfl ?_
            refine dSkip rfl rfl rfl ?_
            refine dSkip rfl rfl rfl ?_
            refine dSkip rfl rfl rfl ?_
            refine dSkip rfl rfl rfl ?_
            refine dpk (e := false) rfl rfl rfl rfl rfl rfl ?_
            refine dNilR 32 [0, 0, 0, 0, 0, 0, 0, 0, 0, 0, 0, 0, 0, 0, 0, 0, 0, 0, 0, 0, 1, 0, 0, 0, 0, 0, 1, 0, 0, 0, 1, 0] [] rfl rfl (by decide +kernel) trivial ?_
            refine qSeq ?_
            refine wF rfl ?_
            refine wSkip ?_
            refine qBlock ?_
            refine qSeq ?_
            refine wRegion ?_
            refine rmI rfl rfl rfl rfl rfl ?_
            refine raddF rfl rfl rfl ?_ ?_ rfl rfl rfl ?_
            · (first | omega | (unfold nodes at hn; omega))
            · (first | omega | (unfold nodes at hn; omega))
            refine raI rfl rfl rfl rfl rfl ?_
            refine rNil ?_
            refine qLoop ?_
            first
              | (have e4 : (frmT n c s L (L.getD i Rp0).an k) = (frmT n c s L (L.getD i Rp0).an (k + 1)) := by
                   rw [frmT_succ, stp_skip]
                   rintro ⟨⟨w1, w2, w3⟩, w4, w5⟩
                   first | contradiction | exact absurd w2 h9_7 | exact absurd w3 h9_13 | (rw [Int.toNat_natCast, Int.toNat_natCast] at h9_23; rw [anEq.2 w4] at h9_23; cases h9_23) | exact absurd h9_29 w5 | omega
                 exact wlH (ih (k + 1, ln, id, m2 + 1) ⟨by dsimp only; omega, by dsimp only; omega, by dsimp only; omega, by dsimp only; rw [← e4]; exact hI.2.2.2⟩ (by dsimp only; omega)) (by (repeat first | exact LE.nil _ | refine LE.unk _ _ ?_ | refine LE.eq _ _ _ rfl ?_)) (by dsimp only; (repeat first | exact lessH0 | (refine lessHc ?_ ?_; (first | (first | ((simp (disch := omega) only [↓app0, ↓appC, ↓updS, ↓updN, ↓hpS, ↓hpN]) <;> first | rfl | assumption) | assumption | rfl) | (first | (focus (((simp (disch := omega) only [app, upd, hp, if_pos, if_neg])); exact congrArg (fun z => some (Blk.mk (List.map iV z) 1 3)) e4)) | (focus (((simp (disch := omega) only [app, upd, hp, if_pos, if_neg])); exact congrArg (fun z => some (Blk.mk z 1 3)) e5))))))) (Nat.le_refl _))
              | (have e3 : (frmT n c s L (L.getD i Rp0).an (k + 1)) = (frmT n c s L (L.getD i Rp0).an k) ++ [(L.getD k Rp0).nd] := by
                   rw [frmT_succ, stp_hit]
                   rw [Int.toNat_natCast, Int.toNat_natCast] at h9_23; exact ⟨⟨h9_2, h9_7, h9_13⟩, anEq.1 h9_23, h9_29⟩
                 have e5 : (frmT n c s L (L.getD i Rp0).an k).map iV ++ [[.int .i64 (L.getD k Rp0).nd]] = (frmT n c s L (L.getD i Rp0).an (k + 1)).map iV := by rw [e3, List.map_append]; rfl
                 exact wlH (ih (k + 1, ln + 1, m2 + 2, m2 + 3) ⟨by dsimp only; omega, by dsimp only; omega, by dsimp only; omega, by dsimp only; rw [e3, List.length_append, hI.2.2.2]; rfl⟩ (by dsimp only; omega)) (by (repeat first | exact LE.nil _ | refine LE.unk _ _ ?_ | refine LE.eq _ _ _ rfl ?_)) (by dsimp only; (repeat first | exact lessH0 | (refine lessHc ?_ ?_; (first | (first | ((simp (disch := omega) only [↓app0, ↓appC, ↓updS, ↓updN, ↓hpS, ↓hpN]) <;> first | rfl | assumption) | assumption | rfl) | (first | (focus (((simp (disch := omega) only [app, upd, hp, if_pos, if_neg])); exact congrArg (fun z => some (Blk.mk (List.map iV z) 1 3)) e4)) | (focus (((simp (disch := omega) only [app, upd, hp, if_pos, if_neg])); exact congrArg (fun z => some (Blk.mk z 1 3)) e5))))))) (Nat.le_refl _))
        · refine dpk (e := false) rfl rfl rfl rfl rfl rfl ?_
          refine dmB rfl rfl rfl rfl rfl ?_
          refine dSkip rfl rfl rfl ?_
          refine dSkip rfl rfl rfl ?_
          refine dSkip rfl rfl rfl ?_
          refine dSkip rfl rfl rfl ?_
          refine dpk (e := false) rfl rfl rfl rfl rfl rfl ?_
          refine dmB rfl rfl rfl rfl rfl ?_
          refine dSkip rfl rfl rfl ?_
          refine dSkip rfl rfl rfl ?_
          refine dSkip rfl rfl rfl ?_
          refine dSkip rfl rfl rfl ?_
          refine dSkip rfl rfl rfl ?_
          refine dSkip rfl rfl rfl ?_
          refine dSkip rfl rfl rfl ?_
          refine dSkip rfl rfl rfl ?_
          refine dpk (e := false) rfl rfl rfl rfl rfl rfl ?_
          refine dmB rfl rfl rfl rfl rfl ?_
          refine dSkip rfl rfl rfl ?_
          refine dSkip rfl rfl rfl ?_
          refine dSkip rfl rfl rfl ?_
          refine dSkip rfl rfl rfl ?_
          refine dSkip rfl rfl rfl ?_
          refine dpk (e := false) rfl rfl rfl rfl rfl rfl ?_
          refine dNilR 32 [0, 0, 0, 0, 0, 0, 0, 0, 0, 0, 0, 0, 0, 0, 0, 0, 0, 0, 0, 0, 0, 0, 0, 0, 0, 0, 1, 0, 0, 0, 1, 0] [] rfl rfl (by decide +kernel) trivial ?_
          refine qSeq ?_
          refine wF rfl ?_
          refine wSkip ?_
          refine qBlock ?_
          refine qSeq ?_
          refine wRegion ?_
          refine rmI rfl rfl rfl rfl rfl ?_
          refine raddF rfl rfl rfl ?_ ?_ rfl rfl rfl ?_
          · (first | omega | (unfold nodes at hn; omega))
          · (first | omega | (unfold nodes at hn; omega))
          refine raI rfl rfl rfl rfl rfl ?_
          refine rNil ?_
          refine qLoop ?_
          first
            | (have e4 : (frmT n c s L (L.getD i Rp0).an k) = (frmT n c s L (L.getD i Rp0).an (k + 1)) := by
                 rw [frmT_succ, stp_skip]
                 rintro ⟨⟨w1, w2, w3⟩, w4, w5⟩
                 first | contradiction | exact absurd w2 h9_7 | exact absurd w3 h9_13 | (rw [Int.toNat_natCast, Int.toNat_natCast] at h9_23; rw [anEq.2 w4] at h9_23; cases h9_23) | exact absurd h9_29 w5 | omega
               exact wlH (ih (k + 1, ln, id, m2 + 1) ⟨by dsimp only; omega, by dsimp only; omega, by dsimp only; omega, by dsimp only; rw [← e4]; exact hI.2.2.2⟩ (by dsimp only; omega)) (by (repeat first | exact LE.nil _ | refine LE.unk _ _ ?_ | refine LE.eq _ _ _ rfl ?_)) (by dsimp only; (repeat first | exact lessH0 | (refine lessHc ?_ ?_; (first | (first | ((simp (disch := omega) only [↓app0, ↓appC, ↓updS, ↓updN, ↓hpS, ↓hpN]) <;> first | rfl | assumption) | assumption | rfl) | (first | (focus (((simp (disch := omega) only [app, upd, hp, if_pos, if_neg])); exact congrArg (fun z => some (Blk.mk (List.map iV z) 1 3)) e4)) | (focus (((simp (disch := omega) only [app, upd, hp, if_pos, if_neg])); exact congrArg (fun z => some (Blk.mk z 1 3)) e5))))))) (Nat.le_refl _))
            | (have e3 : (frmT n c s L (L.getD i Rp0).an (k + 1)) = (frmT n c s L (L.getD i Rp0).an k) ++ [(L.getD k Rp0).nd] := by
                 rw [frmT_succ, stp_hit]
                 rw [Int.toNat_natCast, Int.toNat_natCast] at h9_23; exact ⟨⟨h9_2, h9_7, h9_13⟩, anEq.1 h9_23, h9_29⟩
               have e5 : (frmT n c s L (L.getD i Rp0).an k).map iV ++ [[.int .i64 (L.getD k Rp0).nd]] = (frmT n c s L (L.getD i Rp0).an (k + 1)).map iV := by rw [e3, List.map_append]; rfl
               exact wlH (ih (k + 1, ln + 1, m2 + 2, m2 + 3) ⟨by dsimp only; omega, by dsimp only; omega, by dsimp only; omega, by dsimp only; rw [e3, List.length_append, hI.2.2.2]; rfl⟩ (by dsimp only; omega)) (by (repeat first | exact LE.nil _ | refine LE.unk _ _ ?_ | refine LE.eq _ _ _ rfl ?_)) (by dsimp only; (repeat first | exact lessH0 | (refine lessHc ?_ ?_; (first | (first | ((simp (disch := omega) only [↓app0, ↓appC, ↓updS, ↓updN, ↓hpS, ↓hpN]) <;> first | rfl | assumption) | assumption | rfl) | (first | (focus (((simp (disch := omega) only [app, upd, hp, if_pos, if_neg])); exact congrArg (fun z => some (Blk.mk (List.map iV z) 1 3)) e4)) | (focus (((simp (disch := omega) only [app, upd, hp, if_pos, if_neg])); exact congrArg (fun z => some (Blk.mk z 1 3)) e5))))))) (Nat.le_refl _))
      · refine dmB rfl rfl rfl rfl rfl ?_
        refine dSkip rfl rfl rfl ?_
        refine dSkip rfl rfl rfl ?_
        refine dSkip rfl rfl rfl ?_
        refine dSkip rfl rfl rfl ?_
        refine dpk (e := false) rfl rfl rfl rfl rfl rfl ?_
        refine dmB rfl rfl rfl rfl rfl ?_
        refine dSkip rfl rfl rfl ?_
        refine dSkip rfl rfl rfl ?_
        refine dSkip rfl rfl rfl ?_
        refine dSkip rfl rfl rfl ?_
        refine dpk (e := false) rfl rfl rfl rfl rfl rfl ?_
        refine dmB rfl rfl rfl rfl rfl ?_
        refine dSkip rfl rfl rfl ?_
        refine dSkip rfl rfl rfl ?_
        refine dSkip rfl rfl rfl ?_
        refine dSkip rfl rfl rfl ?_
        refine dSkip rfl rfl rfl ?_
        refine dSkip rfl rfl rfl ?_
        refine dSkip rfl rfl rfl ?_
        refine dSkip rfl rfl rfl ?_
        refine dpk (e := false) rfl rfl rfl rfl rfl rfl ?_
        refine dmB rfl rfl rfl rfl rfl ?_
        refine dSkip rfl rfl rfl ?_
        refine dSkip rfl rfl rfl ?_
        refine dSkip rfl rfl rfl ?_
        refine dSkip rfl rfl rfl ?_
        refine dSkip rfl rfl rfl ?_
        refine dpk (e := false) rfl rfl rfl rfl rfl rfl ?_
        refine dNilR 32 [0, 0, 0, 0, 0, 0, 0, 0, 0, 0, 0, 0, 0, 0, 0, 0, 0, 0, 0, 0, 0, 0, 0, 0, 0, 0, 0, 0, 0, 0, 1, 0] [] rfl rfl (by decide +kernel) trivial ?_
        refine qSeq ?_
        refine wF rfl ?_
        refine wSkip ?_
        refine qBlock ?_
        refine qSeq ?_
        refine wRegion ?_
        refine rmI rfl rfl rfl rfl rfl ?_
        refine raddF rfl rfl rfl ?_ ?_ rfl rfl rfl ?_
        · (first | omega | (unfold nodes at hn; omega))
        · (first | omega | (unfold nodes at hn; omega))
        refine raI rfl rfl rfl rfl rfl ?_
        refine rNil ?_
        refine qLoop ?_
        first
          | (have e4 : (frmT n c s L (L.getD i Rp0).an k) = (frmT n c s L (L.getD i Rp0).an (k + 1)) := by
               rw [frmT_succ, stp_skip]
               rintro ⟨⟨w1, w2, w3⟩, w4, w5⟩
               first | contradiction | exact absurd w2 h9_7 | exact absurd w3 h9_13 | (rw [Int.toNat_natCast, Int.toNat_natCast] at h9_23; rw [anEq.2 w4] at h9_23; cases h9_23) | exact absurd h9_29 w5 | omega
             exact wlH (ih (k + 1, ln, id, m2 + 1) ⟨by dsimp only; omega, by dsimp only; omega, by dsimp only; omega, by dsimp only; rw [← e4]; exact hI.2.2.2⟩ (by dsimp only; omega)) (by (repeat first | exact LE.nil _ | refine LE.unk _ _ ?_ | refine LE.eq _ _ _ rfl ?_)) (by dsimp only; (repeat first | exact lessH0 | (refine lessHc ?_ ?_; (first | (first | ((simp (disch := omega) only [↓app0, ↓appC, ↓updS, ↓updN, ↓hpS, ↓hpN]) <;> first | rfl | assumption) | assumption | rfl) | (first | (focus (((simp (disch := omega) only [app, upd, hp, if_pos, if_neg])); exact congrArg (fun z => some (Blk.mk (List.map iV z) 1 3)) e4)) | (focus (((simp (disch := omega) only [app, upd, hp, if_pos, if_neg])); exact congrArg (fun z => some (Blk.mk z 1 3)) e5))))))) (Nat.le_refl _))
          | (have e3 : (frmT n c s L (L.getD i Rp0).an (k + 1)) = (frmT n c s L (L.getD i Rp0).an k) ++ [(L.getD k Rp0).nd] := by
               rw [frmT_succ, stp_hit]
               rw [Int.toNat_natCast, Int.toNat_natCast] at h9_23; exact ⟨⟨h9_2, h9_7, h9_13⟩, anEq.1 h9_23, h9_29⟩
             have e5 : (frmT n c s L (L.getD i Rp0).an k).map iV ++ [[.int .i64 (L.getD k Rp0).nd]] = (frmT n c s L (L.getD i Rp0).an (k + 1)).map iV := by rw [e3, List.map_append]; rfl
             exact wlH (ih (k + 1, ln + 1, m2 + 2, m2 + 3) ⟨by dsimp only; omega, by dsimp only; omega, by dsimp only; omega, by dsimp only; rw [e3, List.length_append, hI.2.2.2]; rfl⟩ (by dsimp only; omega)) (by (repeat first | exact LE.nil _ | refine LE.unk _ _ ?_ | refine LE.eq _ _ _ rfl ?_)) (by dsimp only; (repeat first | exact lessH0 | (refine lessHc ?_ ?_; (first | (first | ((simp (disch := omega) only [↓app0, ↓appC, ↓updS, ↓updN, ↓hpS, ↓hpN]) <;> first | rfl | assumption) | assumption | rfl) | (first | (focus (((simp (disch := omega) only [app, upd, hp, if_pos, if_neg])); exact congrArg (fun z => some (Blk.mk (List.map iV z) 1 3)) e4)) | (focus (((simp (disch := omega) only [app, upd, hp, if_pos, if_neg])); exact congrArg (fun z => some (Blk.mk z 1 3)) e5))))))) (Nat.le_refl _))
    · refine rNil ?_
      refine qSeq ?_
      refine wF rfl ?_
      refine wExit ?_
      refine qSeqX ?_
      refine qLoopX ?_
      refine qBlockX ?_
      refine qSeq ?_
      refine wSeq ?_
      refine wRegion ?_
      refine rmV rfl rfl rfl rfl rfl ?_
      refine rll rfl rfl rfl rfl rfl rfl ?_
      refine rmI rfl rfl rfl rfl rfl ?_
      refine rsubF rfl rfl rfl ?_ ?_ rfl rfl rfl ?_
      · (first | omega | (unfold nodes at hn; omega))
      · (first | omega | (unfold nodes at hn; omega))
      refine rquo rfl rfl rfl ?_ rfl rfl rfl ?_
      · (first | omega | assumption | (focus (simp; omega)))
      refine rgt rfl rfl rfl rfl rfl rfl ?_ ?_ <;> intro h11_5
      · refine rNil ?_
        refine qSeq ?_
        refine wT rfl ?_
        refine wSeq ?_
        refine wRegion ?_
        refine rmL rfl rfl rfl rfl rfl ?_
        refine rmI rfl rfl rfl rfl rfl ?_
        (apply rixl rfl rfl rfl rfl; (first | omega | assumption | (focus (simp; omega))); (first | rfl | assumption | (exact mapGet Rp.T Rp0 (by omega))); rfl; rfl; rfl; rfl)
        refine rfai (off := 3) (s := 4) (r := true) rfl rfl rfl (Nat.succ_ne_zero _) rfl rfl rfl rfl ?_
        refine rlir (vs := [.int _ _, .int _ _, .int _ _, .int _ _]) rfl rfl rfl (Nat.le_of_ble_eq_true rfl) rfl rfl rfl rfl ?_
        (apply rst (u := .agg [.int _ _, .int _ _, .int _ _, .int _ _]) rfl rfl rfl; (first | ((simp (disch := omega) only [↓app0, ↓appC, ↓updS, ↓updN, ↓hpS, ↓hpN]) <;> first | rfl | assumption) | assumption | rfl); rfl; rfl; rfl; rfl; rfl; (exact Nat.le_of_ble_eq_true rfl); rfl; rfl; rfl)
        refine raB rfl rfl rfl rfl rfl ?_
        refine rNil ?_
        refine qSeq ?_
        refine wRet ?_
        refine qBlockR ?_
        refine qSeqR ?_
        refine qLoopR ?_
        refine qBlockR ?_
        refine qSeqR ?_
        first
          | (have hz : dec n c s L = none := by
               rw [← hI.2.2.2, show i = L.length by omega, List.drop_length]; unfold goD; rfl
             rw [hz]; exact fin (resL_cons (resV_row rfl (by (first | ((simp (disch := omega) only [↓app0, ↓appC, ↓updS, ↓updN, ↓hpS, ↓hpN]) <;> first | rfl | assumption) | assumption | rfl)) rfl rfl (Nat.le_of_ble_eq_true rfl) rfl) (resL_cons rfl resL_nil)) rfl)
          | (have hc := go_step hn (show i < L.length by omega) hO.2.2.1
             rw [if_pos (by unfold qn; have e : k = i + 1 := (by omega); subst e; rw [← hI.2.2.2] at h11_5; exact h11_5)] at hc
             have hz : dec n c s L = some (L.getD i Rp0).an := by rw [← hO.2.2.2, hc]
             rw [hz]; exact fin (resL_cons (resV_row rfl (by (first | ((simp (disch := omega) only [↓app0, ↓appC, ↓updS, ↓updN, ↓hpS, ↓hpN]) <;> first | rfl | assumption) | assumption | rfl)) rfl rfl (Nat.le_of_ble_eq_true rfl) rfl) (resL_cons rfl resL_nil)) rfl)
      · refine rNil ?_
        refine qSeq ?_
        refine wF rfl ?_
        refine wSkip ?_
        refine qBlock ?_
        refine qSeq ?_
        refine wRegion ?_
        refine rmI rfl rfl rfl rfl rfl ?_
        refine raddF rfl rfl rfl ?_ ?_ rfl rfl rfl ?_
        · (first | omega | (unfold nodes at hn; omega))
        · (first | omega | (unfold nodes at hn; omega))
        refine raI rfl rfl rfl rfl rfl ?_
        refine rNil ?_
        refine qLoop ?_
        have hc := go_step hn (show i < L.length by omega) hO.2.2.1
        rw [if_neg (by unfold qn; have e : k = i + 1 := (by omega); subst e; rw [hI.2.2.2]; omega)] at hc
        exact wlH (ihO (i + 1, m2) ⟨by dsimp only; omega, by dsimp only; omega, qn_step hO.2.2.1 (by unfold qn; have e : k = i + 1 := (by omega); subst e; rw [hI.2.2.2]; omega), by rw [← hc]; exact hO.2.2.2⟩ (by dsimp only; omega)) (by (repeat first | exact LE.nil _ | refine LE.unk _ _ ?_ | refine LE.eq _ _ _ rfl ?_)) (by (repeat first | exact lessH0 | (refine lessHc ?_ ?_; (first | (first | ((simp (disch := omega) only [↓app0, ↓appC, ↓updS, ↓updN, ↓hpS, ↓hpN]) <;> first | rfl | assumption) | assumption | rfl) | fail)))) (Nat.le_refl _)
  · refine rNil ?_
    refine qSeq ?_
    refine wF rfl ?_
    refine wExit ?_
    refine qSeqX ?_
    refine qLoopX ?_
    refine qBlockX ?_
    refine qSeq ?_
    refine wSeq ?_
    refine wRegion ?_
    refine rbd (cs := [.int _ _, .int _ _, .int _ _, .int _ _]) rfl rfl rfl rfl rfl ?_
    (apply rst (u := .agg [.int _ _, .int _ _, .int _ _, .int _ _]) rfl rfl rfl; (first | ((simp (disch := omega) only [↓app0, ↓appC, ↓updS, ↓updN, ↓hpS, ↓hpN]) <;> first | rfl | assumption) | assumption | rfl); rfl; rfl; rfl; rfl; rfl; (exact Nat.le_of_ble_eq_true rfl); rfl; rfl; rfl)
    refine raB rfl rfl rfl rfl rfl ?_
    refine rNil ?_
    refine qSeq ?_
    refine wRet ?_
    first
      | (have hz : dec n c s L = none := by
           rw [← hI.2.2.2, show i = L.length by omega, List.drop_length]; unfold goD; rfl
         rw [hz]; exact fin (resL_cons (resV_row rfl (by (first | ((simp (disch := omega) only [↓app0, ↓appC, ↓updS, ↓updN, ↓hpS, ↓hpN]) <;> first | rfl | assumption) | assumption | rfl)) rfl rfl (Nat.le_of_ble_eq_true rfl) rfl) (resL_cons rfl resL_nil)) rfl)
      | (have hc := go_step hn (show i < L.length by omega) hO.2.2.1
         rw [if_pos (by unfold qn; have e : k = i + 1 := (by omega); subst e; rw [← hI.2.2.2] at h11_5; exact h11_5)] at hc
         have hz : dec n c s L = some (L.getD i Rp0).an := by rw [← hO.2.2.2, hc]
         rw [hz]; exact fin (resL_cons (resV_row rfl (by (first | ((simp (disch := omega) only [↓app0, ↓appC, ↓updS, ↓updN, ↓hpS, ↓hpN]) <;> first | rfl | assumption) | assumption | rfl)) rfl rfl (Nat.le_of_ble_eq_true rfl) rfl) (resL_cons rfl resL_nil)) rfl)
end Go.Proofs.YtcafccndgpopkaaDoor
