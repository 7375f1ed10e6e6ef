import Derived.Test.YtnkpjlpappmccaaDoorD5
namespace Go.Proofs.YtnkpjlpappmccaaDoor
open Go.V
set_option linter.unusedVariables false
set_option linter.unusedSimpArgs false
set_option maxRecDepth 20000
set_option maxHeartbeats 4000000

theorem Pure.cons1 {E : Env} {f : FuncId} {rs : List A} {x : List T} {es : List (List T)} (h : V.Pure E f [.one (.sl true (x :: es))] rs) : V.Pure E f [.one (.sl false (x :: es))] rs := by
  unfold V.Pure at h ⊢
  refine ⟨h.1, fun I w vs k1 k2 k3 k4 => h.2 I w vs k1 k2 (by simpa using k3) fun i a v ha hv => ?_⟩
  match i with
  | 0 =>
    simp only [List.getElem?_cons_zero, Option.some.injEq] at ha
    subst ha
    have := k4 0 _ v rfl hv
    cases this with
    | one _ _ h =>
      cases h with
      | sl _ _ a len cap sz rd hlen hcap hnil hI hsz hrd hsub => exact .one _ _ (.sl true _ a len cap sz rd hlen hcap (fun h => by have := (hnil h).2.1; cases this) hI hsz hrd hsub)
  | i + 1 => simp at ha

theorem p34t (L : List An) (hL : L.length ≤ 1048576) : Pure En 34 [.one (.sl true (L.map An.T))] [.one (.sl true (L.map An.T))] := by
  refine Pure.of_wp Tryd.func34 rfl (Nat.le_of_ble_eq_true rfl) ?_
  refine wSeq ?_
  refine wRegion ?_
  refine raN rfl rfl rfl rfl rfl ?_
  refine rNil ?_
  refine qSeq ?_
  refine wSeq ?_
  refine wSeq ?_
  refine wRegion ?_
  refine rmL rfl rfl rfl rfl rfl ?_
  refine rnil (c := false) rfl rfl rfl rfl rfl rfl ?_
  refine rNil ?_
  refine qSeq ?_
  refine wF rfl ?_
  refine wSkip ?_
  refine qSeq ?_
  refine wSeq ?_
  refine wRegion ?_
  refine rbs (es := []) rfl rfl rfl rfl (Nat.succ_ne_zero _) (Nat.le_of_ble_eq_true rfl) rfl rfl rfl rfl rfl ?_
  refine rmL rfl rfl rfl rfl rfl ?_
  (refine rap (s' := 32) rfl rfl rfl rfl rfl rfl rfl rfl (Nat.succ_ne_zero _) rfl (lenAn L) ?_ ?_ rfl rfl rfl ?_; (simp only [List.length_map]; omega); (simp only [List.length_map]; omega))
  refine raV rfl rfl rfl rfl rfl ?_
  refine rNil ?_
  refine qSeq ?_
  refine wRet ?_
  exact finS [1] rfl (SnapL.cons _ _ _ _ (.one _ _ (snapView (b := ⟨_, _, _⟩) (L.map An.T) (List.mem_singleton.2 rfl) rfl (rowsAn L) (by simp))) SnapL.nil)
theorem p34n : Pure En 34 [.one .nsl] [.one .nsl] := by
  refine Pure.of_wp Tryd.func34 rfl (Nat.le_of_ble_eq_true rfl) ?_
  refine wSeq ?_
  refine wRegion ?_
  refine raN rfl rfl rfl rfl rfl ?_
  refine rNil ?_
  refine qSeq ?_
  refine wSeq ?_
  refine wSeq ?_
  refine wRegion ?_
  refine rmN rfl rfl rfl rfl rfl ?_
  refine rnil (c := true) rfl rfl rfl rfl rfl rfl ?_
  refine rNil ?_
  refine qSeq ?_
  refine wT rfl ?_
  refine wSeq ?_
  refine wRegion ?_
  refine raN rfl rfl rfl rfl rfl ?_
  refine rNil ?_
  refine qSeq ?_
  refine wRet ?_
  refine qSeqR ?_
  exact fin rfl rfl
theorem p34 (nn : Bool) (L : List An) (hL : L.length ≤ 1048576) : Pure En 34 [.one (.sl nn (L.map An.T))] [.one (.sl false (L.map An.T))] := by
  have h1 := (p34t L hL).weak (.cons _ _ _ _ (.one _ _ (.sl _ _)) .nil)
  cases nn with
  | true => exact h1
  | false =>
    cases L with
    | nil => exact Pure.nil1 (p34n.weak (.cons _ _ _ _ (.one _ _ .nil) .nil)) h1
    | cons a l => exact Pure.cons1 h1
theorem p33t (L : List Rp) (hL : L.length ≤ 1048576) : Pure En 33 [.one (.sl true (L.map Rp.T))] [.one (.sl true (L.map Rp.T))] := by
  refine Pure.of_wp Tryd.func33 rfl (Nat.le_of_ble_eq_true rfl) ?_
  refine wSeq ?_
  refine wRegion ?_
  refine raN rfl rfl rfl rfl rfl ?_
  refine rNil ?_
  refine qSeq ?_
  refine wSeq ?_
  refine wSeq ?_
  refine wRegion ?_
  refine rmL rfl rfl rfl rfl rfl ?_
  refine rnil (c := false) rfl rfl rfl rfl rfl rfl ?_
  refine rNil ?_
  refine qSeq ?_
  refine wF rfl ?_
  refine wSkip ?_
  refine qSeq ?_
  refine wSeq ?_
  refine wRegion ?_
  refine rbs (es := []) rfl rfl rfl rfl (Nat.succ_ne_zero _) (Nat.le_of_ble_eq_true rfl) rfl rfl rfl rfl rfl ?_
  refine rmL rfl rfl rfl rfl rfl ?_
  (refine rap (s' := 72) rfl rfl rfl rfl rfl rfl rfl rfl (Nat.succ_ne_zero _) rfl (lenRp L) ?_ ?_ rfl rfl rfl ?_; (simp only [List.length_map]; omega); (simp only [List.length_map]; omega))
  refine raV rfl rfl rfl rfl rfl ?_
  refine rNil ?_
  refine qSeq ?_
  refine wRet ?_
  exact finS [1] rfl (SnapL.cons _ _ _ _ (.one _ _ (snapView (b := ⟨_, _, _⟩) (L.map Rp.T) (List.mem_singleton.2 rfl) rfl (rowsRp L) (by simp))) SnapL.nil)
theorem p33n : Pure En 33 [.one .nsl] [.one .nsl] := by
  refine Pure.of_wp Tryd.func33 rfl (Nat.le_of_ble_eq_true rfl) ?_
  refine wSeq ?_
  refine wRegion ?_
  refine raN rfl rfl rfl rfl rfl ?_
  refine rNil ?_
  refine qSeq ?_
  refine wSeq ?_
  refine wSeq ?_
  refine wRegion ?_
  refine rmN rfl rfl rfl rfl rfl ?_
  refine rnil (c := true) rfl rfl rfl rfl rfl rfl ?_
  refine rNil ?_
  refine qSeq ?_
  refine wT rfl ?_
  refine wSeq ?_
  refine wRegion ?_
  refine raN rfl rfl rfl rfl rfl ?_
  refine rNil ?_
  refine qSeq ?_
  refine wRet ?_
  refine qSeqR ?_
  exact fin rfl rfl
theorem p33 (nn : Bool) (L : List Rp) (hL : L.length ≤ 1048576) : Pure En 33 [.one (.sl nn (L.map Rp.T))] [.one (.sl false (L.map Rp.T))] := by
  have h1 := (p33t L hL).weak (.cons _ _ _ _ (.one _ _ (.sl _ _)) .nil)
  cases nn with
  | true => exact h1
  | false =>
    cases L with
    | nil => exact Pure.nil1 (p33n.weak (.cons _ _ _ _ (.one _ _ .nil) .nil)) h1
    | cons a l => exact Pure.cons1 h1

structure Cl where
  id : Int
  st : Int
  bz : Bool
  rq : Rq
  rps : List Rp
  acc : List An
def Cl.T (c : Cl) (n1 n2 : Bool) : List T := [.int .i64 c.id, .int .i64 c.st, .bool c.bz, .int .i64 c.rq.cl, .int .i64 c.rq.st, .int .i64 c.rq.kd, .int .i64 c.rq.le, .str c.rq.nm, .sl n1 (c.rps.map Rp.T), .sl n2 (c.acc.map An.T)]
def Rq0 : Rq := ⟨0, 0, 0, 0, ⟨#[]⟩⟩

theorem p16 (c : Cl) (n1 n2 : Bool) (h1 : c.rps.length ≤ 1048576) (h2 : c.acc.length ≤ 1048576) : Pure En 16 [.agg (c.T n1 n2)] [.agg (c.T false false)] := by
  refine Pure.of_wp Tryd.func16 rfl (Nat.le_of_ble_eq_true rfl) ?_
  refine wSeq ?_
  refine wRegion ?_
  refine rbx (u := .agg [.int _ _, .int _ _, .bool _, .int _ _, .int _ _, .int _ _, .int _ _, .str _, _, _]) rfl rfl rfl rfl rfl rfl rfl ?_
  refine ral rfl rfl rfl rfl rfl rfl ?_
  refine rNil ?_
  refine qSeq ?_
  refine wSeq ?_
  refine wDraw [0, 1, 3, 0, 8, 31, 31, 127, 255, 511] rfl (by decide +kernel) ?_
  refine dfa (off := 8) (s := 1) (r := false) rfl rfl rfl (Nat.succ_ne_zero _) rfl rfl rfl ?_
  refine dlc (v := .sl _ _ _) rfl rfl rfl rfl rfl rfl rfl rfl rfl ?_
  refine dcl (p33 n1 c.rps h1) rfl rfl rfl rfl rfl rfl ?_
  refine dfa (off := 9) (s := 1) (r := false) rfl rfl rfl (Nat.succ_ne_zero _) rfl rfl rfl ?_
  refine dlc (v := .sl _ _ _) rfl rfl rfl rfl rfl rfl rfl rfl rfl ?_
  refine dcl (p34 n2 c.acc h2) rfl rfl rfl rfl rfl rfl ?_
  refine dfa (off := 8) (s := 1) (r := false) rfl rfl rfl (Nat.succ_ne_zero _) rfl rfl rfl ?_
  refine dst rfl rfl rfl rfl rfl rfl rfl rfl rfl (Nat.le_of_ble_eq_true rfl) rfl rfl rfl ?_
  refine dfa (off := 9) (s := 1) (r := false) rfl rfl rfl (Nat.succ_ne_zero _) rfl rfl rfl ?_
  refine dst rfl rfl rfl rfl rfl rfl rfl rfl rfl (Nat.le_of_ble_eq_true rfl) rfl rfl rfl ?_
  refine dNilR 10 [3, 0, 3, 0, 0, 1, 0, 0, 1, 0] [] rfl rfl (by decide +kernel) trivial ?_
  refine qSeq ?_
  refine wSeq ?_
  refine wRegion ?_
  refine rlr (vs := [.int _ _, .int _ _, .bool _, .int _ _, .int _ _, .int _ _, .int _ _, .str _, _, _]) rfl rfl rfl rfl rfl (Nat.le_of_ble_eq_true rfl) rfl rfl rfl rfl ?_
  refine rst rfl rfl rfl rfl rfl rfl rfl rfl rfl (Nat.le_of_ble_eq_true rfl) rfl rfl rfl ?_
  refine rNil ?_
  refine qSeq ?_
  refine wRet ?_
  exact fin rfl rfl
theorem p4 (i : Int) (h : 0 ≤ i ∧ i ≤ 255) : Pure En 4 [.one (.int .i64 i)] [.agg ((Cl.mk i 0 false Rq0 [] []).T false false), .one (.int .i64 0)] := by
  have : Pure En 4 [.one (.int .i64 i)] [.agg [.int .i64 i, .int .i64 0, .bool false, .int .i64 0, .int .i64 0, .int .i64 0, .int .i64 0, .str ⟨#[]⟩, .nsl, .nsl], .one (.int .i64 0)] := by
    refine Pure.of_wp Tryd.func4 rfl (Nat.le_of_ble_eq_true rfl) ?_
    refine wSeq ?_
    refine wRegion ?_
    refine ral rfl rfl rfl rfl rfl rfl ?_
    refine raI rfl rfl rfl rfl rfl ?_
    refine rNil ?_
    refine qSeq ?_
    refine wSeq ?_
    refine wSeq ?_
    refine wRegion ?_
    refine rmI rfl rfl rfl rfl rfl ?_
    refine rclP (p12 _ _ _) rfl rfl rfl rfl rfl rfl ?_ ?_ <;> intro h1_1
    · refine rnot (c := true) rfl rfl rfl rfl rfl ?_
      refine rNil ?_
      refine qSeq ?_
      refine wF rfl ?_
      refine wSkip ?_
      refine qSeq ?_
      refine wSeq ?_
      refine wRegion ?_
      refine rmI rfl rfl rfl rfl rfl ?_
      refine rbd (cs := [.int _ _, .int _ _, .bool _, .int _ _, .int _ _, .int _ _, .int _ _, .str _, _, _]) rfl rfl rfl rfl rfl ?_
      refine rst rfl rfl rfl rfl rfl rfl rfl rfl rfl (Nat.le_of_ble_eq_true rfl) rfl rfl rfl ?_
      refine raI rfl rfl rfl rfl rfl ?_
      refine rNil ?_
      refine qSeq ?_
      refine wRet ?_
      first | exact fin rfl rfl | exact absurd h h1_1
    · refine rnot (c := false) rfl rfl rfl rfl rfl ?_
      refine rNil ?_
      refine qSeq ?_
      refine wT rfl ?_
      refine wSeq ?_
      refine wRegion ?_
      refine rbd (cs := [.int _ _, .int _ _, .bool _, .int _ _, .int _ _, .int _ _, .int _ _, .str _, _, _]) rfl rfl rfl rfl rfl ?_
      refine rst rfl rfl rfl rfl rfl rfl rfl rfl rfl (Nat.le_of_ble_eq_true rfl) rfl rfl rfl ?_
      refine raI rfl rfl rfl rfl rfl ?_
      refine rNil ?_
      refine qSeq ?_
      refine wRet ?_
      refine qSeqR ?_
      first | exact fin rfl rfl | exact absurd h h1_1
  exact this.weak (.cons _ _ _ _ (.agg _ _ (.cons _ _ _ _ (.refl _) (.cons _ _ _ _ (.refl _) (.cons _ _ _ _ (.refl _) (.cons _ _ _ _ (.refl _) (.cons _ _ _ _ (.refl _) (.cons _ _ _ _ (.refl _) (.cons _ _ _ _ (.refl _) (.cons _ _ _ _ (.refl _) (.cons _ _ _ _ .nil (.cons _ _ _ _ .nil .nil))))))))))) (.cons _ _ _ _ (.one _ _ (.refl _)) .nil))

def bytes (B : List Int) : Prop := ∀ b ∈ B, 0 ≤ b ∧ b ≤ 255
theorem bytes.get {B : List Int} (h : bytes B) (k : Nat) : 0 ≤ B.getD k 0 ∧ B.getD k 0 ≤ 255 := by
  rcases Nat.lt_or_ge k B.length with hk | hk
  · rw [List.getD_eq_getElem?_getD, List.getElem?_eq_getElem hk]; exact h _ (List.getElem_mem hk)
  · rw [List.getD_eq_getElem?_getD, List.getElem?_eq_none hk]; exact ⟨Int.le_refl _, by decide⟩
theorem tmod_b {a b : Int} (ha : 0 ≤ a) (hb : 0 < b) : 0 ≤ a.tmod b ∧ a.tmod b < b := ⟨Int.tmod_nonneg _ ha, Int.tmod_lt_of_pos _ hb⟩
theorem p5 (nn : Bool) (B : List Int) (hB : bytes B) (hL : B.length ≤ 1048577) : ∃ r : Int, (0 ≤ r ∧ r ≤ 255) ∧ Pure En 5 [.one (.sl nn (B.map bT)), .one (.int .i64 0), .one (.int .i64 256)] [.one (.int .i64 r)] := by
  have hl : (B.map bT).length = B.length := List.length_map ..
  have g := fun k => hB.get k
  refine Pure.of_wpX Tryd.func5 rfl (Nat.le_of_ble_eq_true rfl) ?_
  refine wSeq ?_
  refine wRegion ?_
  refine raI rfl rfl rfl rfl rfl ?_
  refine rNil ?_
  refine qSeq ?_
  refine wSeq ?_
  refine wSeq ?_
  refine wRegion ?_
  refine rmI rfl rfl rfl rfl rfl ?_
  refine rle rfl rfl rfl rfl rfl rfl ?_ ?_ <;> intro h1_1
  · refine rNil ?_
    refine qSeq ?_
    refine wT rfl ?_
    refine wSeq ?_
    refine wRegion ?_
    refine raI rfl rfl rfl rfl rfl ?_
    refine rNil ?_
    refine qSeq ?_
    refine wRet ?_
    refine qSeqR ?_
    exact absurd h1_1 (by decide)
  · refine rNil ?_
    refine qSeq ?_
    refine wF rfl ?_
    refine wSkip ?_
    refine qSeq ?_
    refine wSeq ?_
    refine wSeq ?_
    refine wRegion ?_
    refine rmL rfl rfl rfl rfl rfl ?_
    refine rll rfl rfl rfl rfl rfl rfl ?_
    refine req rfl rfl rfl rfl rfl rfl ?_ ?_ <;> intro h3_2
    · refine rNil ?_
      refine qSeq ?_
      refine wT rfl ?_
      refine wSeq ?_
      refine wRegion ?_
      refine rmI rfl rfl rfl rfl rfl ?_
      refine rmulF rfl rfl rfl ?_ ?_ rfl rfl rfl ?_
      · (first | omega | (have := tmod_b (a := 0) (b := ((B.map bT).length : Int)) (by omega) (by omega); have := tmod_b (a := 0 + 1) (b := ((B.map bT).length : Int)) (by omega) (by omega); have g1 := g ((0 : Int).tmod ((B.map bT).length : Int)).toNat; have g2 := g ((0 + 1 : Int).tmod ((B.map bT).length : Int)).toNat; have e0 : IntKind.i64.wrap ((0 : Int).tdiv ((B.map bT).length : Int)) = 0 := (by rw [Int.zero_tdiv]; rfl); omega))
      · (first | omega | (have := tmod_b (a := 0) (b := ((B.map bT).length : Int)) (by omega) (by omega); have := tmod_b (a := 0 + 1) (b := ((B.map bT).length : Int)) (by omega) (by omega); have g1 := g ((0 : Int).tmod ((B.map bT).length : Int)).toNat; have g2 := g ((0 + 1 : Int).tmod ((B.map bT).length : Int)).toNat; have e0 : IntKind.i64.wrap ((0 : Int).tdiv ((B.map bT).length : Int)) = 0 := (by rw [Int.zero_tdiv]; rfl); omega))
      refine rmI rfl rfl rfl rfl rfl ?_
      refine rrem rfl rfl rfl ?_ rfl rfl rfl ?_
      · (first | omega | (have := tmod_b (a := 0) (b := ((B.map bT).length : Int)) (by omega) (by omega); have := tmod_b (a := 0 + 1) (b := ((B.map bT).length : Int)) (by omega) (by omega); have g1 := g ((0 : Int).tmod ((B.map bT).length : Int)).toNat; have g2 := g ((0 + 1 : Int).tmod ((B.map bT).length : Int)).toNat; have e0 : IntKind.i64.wrap ((0 : Int).tdiv ((B.map bT).length : Int)) = 0 := (by rw [Int.zero_tdiv]; rfl); omega))
      refine raI rfl rfl rfl rfl rfl ?_
      refine rNil ?_
      refine qSeq ?_
      refine wRet ?_
      refine qSeqR ?_
      exact ⟨_, by decide, fin rfl rfl⟩
    · refine rNil ?_
      refine qSeq ?_
      refine wF rfl ?_
      refine wSkip ?_
      refine qSeq ?_
      refine wSeq ?_
      refine wDraw [0, 0, 0, 4, 14, 31, 63, 127, 255, 0, 0, 1024, 0, 4096, 15360, 32256, 65024, 130560, 262143, 0, 0, 1048576, 3670016, 8388607, 0, 33554431, 67108863] rfl (by decide +kernel) ?_
      refine dmL rfl rfl rfl rfl rfl ?_
      refine dmI rfl rfl rfl rfl rfl ?_
      refine dmL rfl rfl rfl rfl rfl ?_
      refine dll rfl rfl rfl rfl rfl rfl ?_
      refine drem rfl rfl rfl ?_ rfl rfl rfl ?_
      · (first | omega | (have := tmod_b (a := 0) (b := ((B.map bT).length : Int)) (by omega) (by omega); have := tmod_b (a := 0 + 1) (b := ((B.map bT).length : Int)) (by omega) (by omega); have g1 := g ((0 : Int).tmod ((B.map bT).length : Int)).toNat; have g2 := g ((0 + 1 : Int).tmod ((B.map bT).length : Int)).toNat; have e0 : IntKind.i64.wrap ((0 : Int).tdiv ((B.map bT).length : Int)) = 0 := (by rw [Int.zero_tdiv]; rfl); omega))
      (apply dixl rfl rfl rfl rfl; (first | omega | (have := tmod_b (a := 0) (b := ((B.map bT).length : Int)) (by omega) (by omega); have := tmod_b (a := 0 + 1) (b := ((B.map bT).length : Int)) (by omega) (by omega); have g1 := g ((0 : Int).tmod ((B.map bT).length : Int)).toNat; have g2 := g ((0 + 1 : Int).tmod ((B.map bT).length : Int)).toNat; have e0 : IntKind.i64.wrap ((0 : Int).tdiv ((B.map bT).length : Int)) = 0 := (by rw [Int.zero_tdiv]; rfl); omega)); (first | rfl | assumption | (exact mapGet bT 0 (by have := tmod_b (a := 0) (b := ((B.map bT).length : Int)) (by omega) (by omega); have := tmod_b (a := 0 + 1) (b := ((B.map bT).length : Int)) (by omega) (by omega); omega))); rfl; rfl; rfl; rfl)
      refine dlic (v := .int _ _) rfl rfl rfl rfl rfl rfl rfl rfl ?_
      refine dcvF rfl rfl rfl rfl ?_ ?_ rfl rfl rfl ?_
      · (first | exact bt_ge _ _ | exact bt_le _ _ | omega | (first | omega | (have := tmod_b (a := 0) (b := ((B.map bT).length : Int)) (by omega) (by omega); have := tmod_b (a := 0 + 1) (b := ((B.map bT).length : Int)) (by omega) (by omega); have g1 := g ((0 : Int).tmod ((B.map bT).length : Int)).toNat; have g2 := g ((0 + 1 : Int).tmod ((B.map bT).length : Int)).toNat; have e0 : IntKind.i64.wrap ((0 : Int).tdiv ((B.map bT).length : Int)) = 0 := (by rw [Int.zero_tdiv]; rfl); omega)))
      · (first | exact bt_ge _ _ | exact bt_le _ _ | omega | (first | omega | (have := tmod_b (a := 0) (b := ((B.map bT).length : Int)) (by omega) (by omega); have := tmod_b (a := 0 + 1) (b := ((B.map bT).length : Int)) (by omega) (by omega); have g1 := g ((0 : Int).tmod ((B.map bT).length : Int)).toNat; have g2 := g ((0 + 1 : Int).tmod ((B.map bT).length : Int)).toNat; have e0 : IntKind.i64.wrap ((0 : Int).tdiv ((B.map bT).length : Int)) = 0 := (by rw [Int.zero_tdiv]; rfl); omega)))
      refine dmulF rfl rfl rfl ?_ ?_ rfl rfl rfl ?_
      · (first | omega | (have := tmod_b (a := 0) (b := ((B.map bT).length : Int)) (by omega) (by omega); have := tmod_b (a := 0 + 1) (b := ((B.map bT).length : Int)) (by omega) (by omega); have g1 := g ((0 : Int).tmod ((B.map bT).length : Int)).toNat; have g2 := g ((0 + 1 : Int).tmod ((B.map bT).length : Int)).toNat; have e0 : IntKind.i64.wrap ((0 : Int).tdiv ((B.map bT).length : Int)) = 0 := (by rw [Int.zero_tdiv]; rfl); omega))
      · (first | omega | (have := tmod_b (a := 0) (b := ((B.map bT).length : Int)) (by omega) (by omega); have := tmod_b (a := 0 + 1) (b := ((B.map bT).length : Int)) (by omega) (by omega); have g1 := g ((0 : Int).tmod ((B.map bT).length : Int)).toNat; have g2 := g ((0 + 1 : Int).tmod ((B.map bT).length : Int)).toNat; have e0 : IntKind.i64.wrap ((0 : Int).tdiv ((B.map bT).length : Int)) = 0 := (by rw [Int.zero_tdiv]; rfl); omega))
      refine dmL rfl rfl rfl rfl rfl ?_
      refine dmI rfl rfl rfl rfl rfl ?_
      refine daddF rfl rfl rfl ?_ ?_ rfl rfl rfl ?_
      · (first | omega | (have := tmod_b (a := 0) (b := ((B.map bT).length : Int)) (by omega) (by omega); have := tmod_b (a := 0 + 1) (b := ((B.map bT).length : Int)) (by omega) (by omega); have g1 := g ((0 : Int).tmod ((B.map bT).length : Int)).toNat; have g2 := g ((0 + 1 : Int).tmod ((B.map bT).length : Int)).toNat; have e0 : IntKind.i64.wrap ((0 : Int).tdiv ((B.map bT).length : Int)) = 0 := (by rw [Int.zero_tdiv]; rfl); omega))
      · (first | omega | (have := tmod_b (a := 0) (b := ((B.map bT).length : Int)) (by omega) (by omega); have := tmod_b (a := 0 + 1) (b := ((B.map bT).length : Int)) (by omega) (by omega); have g1 := g ((0 : Int).tmod ((B.map bT).length : Int)).toNat; have g2 := g ((0 + 1 : Int).tmod ((B.map bT).length : Int)).toNat; have e0 : IntKind.i64.wrap ((0 : Int).tdiv ((B.map bT).length : Int)) = 0 := (by rw [Int.zero_tdiv]; rfl); omega))
      refine dmL rfl rfl rfl rfl rfl ?_
      refine dll rfl rfl rfl rfl rfl rfl ?_
      refine drem rfl rfl rfl ?_ rfl rfl rfl ?_
      · (first | omega | (have := tmod_b (a := 0) (b := ((B.map bT).length : Int)) (by omega) (by omega); have := tmod_b (a := 0 + 1) (b := ((B.map bT).length : Int)) (by omega) (by omega); have g1 := g ((0 : Int).tmod ((B.map bT).length : Int)).toNat; have g2 := g ((0 + 1 : Int).tmod ((B.map bT).length : Int)).toNat; have e0 : IntKind.i64.wrap ((0 : Int).tdiv ((B.map bT).length : Int)) = 0 := (by rw [Int.zero_tdiv]; rfl); omega))
      (apply dixl rfl rfl rfl rfl; (first | omega | (have := tmod_b (a := 0) (b := ((B.map bT).length : Int)) (by omega) (by omega); have := tmod_b (a := 0 + 1) (b := ((B.map bT).length : Int)) (by omega) (by omega); have g1 := g ((0 : Int).tmod ((B.map bT).length : Int)).toNat; have g2 := g ((0 + 1 : Int).tmod ((B.map bT).length : Int)).toNat; have e0 : IntKind.i64.wrap ((0 : Int).tdiv ((B.map bT).length : Int)) = 0 := (by rw [Int.zero_tdiv]; rfl); omega)); (first | rfl | assumption | (exact mapGet bT 0 (by have := tmod_b (a := 0) (b := ((B.map bT).length : Int)) (by omega) (by omega); have := tmod_b (a := 0 + 1) (b := ((B.map bT).length : Int)) (by omega) (by omega); omega))); rfl; rfl; rfl; rfl)
      refine dlic (v := .int _ _) rfl rfl rfl rfl rfl rfl rfl rfl ?_
      refine dcvF rfl rfl rfl rfl ?_ ?_ rfl rfl rfl ?_
      · (first | exact bt_ge _ _ | exact bt_le _ _ | omega | (first | omega | (have := tmod_b (a := 0) (b := ((B.map bT).length : Int)) (by omega) (by omega); have := tmod_b (a := 0 + 1) (b := ((B.map bT).length : Int)) (by omega) (by omega); have g1 := g ((0 : Int).tmod ((B.map bT).length : Int)).toNat; have g2 := g ((0 + 1 : Int).tmod ((B.map bT).length : Int)).toNat; have e0 : IntKind.i64.wrap ((0 : Int).tdiv ((B.map bT).length : Int)) = 0 := (by rw [Int.zero_tdiv]; rfl); omega)))
      · (first | exact bt_ge _ _ | exact bt_le _ _ | omega | (first | omega | (have := tmod_b (a := 0) (b := ((B.map bT).length : Int)) (by omega) (by omega); have := tmod_b (a := 0 + 1) (b := ((B.map bT).length : Int)) (by omega) (by omega); have g1 := g ((0 : Int).tmod ((B.map bT).length : Int)).toNat; have g2 := g ((0 + 1 : Int).tmod ((B.map bT).length : Int)).toNat; have e0 : IntKind.i64.wrap ((0 : Int).tdiv ((B.map bT).length : Int)) = 0 := (by rw [Int.zero_tdiv]; rfl); omega)))
      refine daddF rfl rfl rfl ?_ ?_ rfl rfl rfl ?_
      · (first | omega | (have := tmod_b (a := 0) (b := ((B.map bT).length : Int)) (by omega) (by omega); have := tmod_b (a := 0 + 1) (b := ((B.map bT).length : Int)) (by omega) (by omega); have g1 := g ((0 : Int).tmod ((B.map bT).length : Int)).toNat; have g2 := g ((0 + 1 : Int).tmod ((B.map bT).length : Int)).toNat; have e0 : IntKind.i64.wrap ((0 : Int).tdiv ((B.map bT).length : Int)) = 0 := (by rw [Int.zero_tdiv]; rfl); omega))
      · (first | omega | (have := tmod_b (a := 0) (b := ((B.map bT).length : Int)) (by omega) (by omega); have := tmod_b (a := 0 + 1) (b := ((B.map bT).length : Int)) (by omega) (by omega); have g1 := g ((0 : Int).tmod ((B.map bT).length : Int)).toNat; have g2 := g ((0 + 1 : Int).tmod ((B.map bT).length : Int)).toNat; have e0 : IntKind.i64.wrap ((0 : Int).tdiv ((B.map bT).length : Int)) = 0 := (by rw [Int.zero_tdiv]; rfl); omega))
      refine dmI rfl rfl rfl rfl rfl ?_
      refine dmL rfl rfl rfl rfl rfl ?_
      refine dll rfl rfl rfl rfl rfl rfl ?_
      refine dquo rfl rfl rfl ?_ rfl rfl rfl ?_
      · omega
      refine daddF rfl rfl rfl ?_ ?_ rfl rfl rfl ?_
      · (first | omega | (have := tmod_b (a := 0) (b := ((B.map bT).length : Int)) (by omega) (by omega); have := tmod_b (a := 0 + 1) (b := ((B.map bT).length : Int)) (by omega) (by omega); have g1 := g ((0 : Int).tmod ((B.map bT).length : Int)).toNat; have g2 := g ((0 + 1 : Int).tmod ((B.map bT).length : Int)).toNat; have e0 : IntKind.i64.wrap ((0 : Int).tdiv ((B.map bT).length : Int)) = 0 := (by rw [Int.zero_tdiv]; rfl); omega))
      · (first | omega | (have := tmod_b (a := 0) (b := ((B.map bT).length : Int)) (by omega) (by omega); have := tmod_b (a := 0 + 1) (b := ((B.map bT).length : Int)) (by omega) (by omega); have g1 := g ((0 : Int).tmod ((B.map bT).length : Int)).toNat; have g2 := g ((0 + 1 : Int).tmod ((B.map bT).length : Int)).toNat; have e0 : IntKind.i64.wrap ((0 : Int).tdiv ((B.map bT).length : Int)) = 0 := (by rw [Int.zero_tdiv]; rfl); omega))
      refine dmI rfl rfl rfl rfl rfl ?_
      refine drem rfl rfl rfl ?_ rfl rfl rfl ?_
      · (first | omega | (have := tmod_b (a := 0) (b := ((B.map bT).length : Int)) (by omega) (by omega); have := tmod_b (a := 0 + 1) (b := ((B.map bT).length : Int)) (by omega) (by omega); have g1 := g ((0 : Int).tmod ((B.map bT).length : Int)).toNat; have g2 := g ((0 + 1 : Int).tmod ((B.map bT).length : Int)).toNat; have e0 : IntKind.i64.wrap ((0 : Int).tdiv ((B.map bT).length : Int)) = 0 := (by rw [Int.zero_tdiv]; rfl); omega))
      refine daI rfl rfl rfl rfl rfl ?_
      refine dNilR 27 [0, 0, 0, 0, 0, 0, 0, 0, 0, 0, 0, 0, 0, 0, 0, 0, 0, 0, 0, 0, 0, 0, 0, 0, 0, 0, 0] [] rfl rfl (by decide +kernel) trivial ?_
      refine qSeq ?_
      refine wRet ?_
      refine ⟨_, ?_, fin rfl rfl⟩
      have e0 : (0 : Int).tdiv ((B.map bT).length : Int) = 0 := Int.zero_tdiv _
      have g1 := g ((0 : Int).tmod ((B.map bT).length : Int)).toNat
      have g2 := g ((0 + 1 : Int).tmod ((B.map bT).length : Int)).toNat
      rw [e0]
      have := tmod_b (a := B.getD ((0 : Int).tmod ((B.map bT).length : Int)).toNat 0 * 31 + B.getD ((0 + 1 : Int).tmod ((B.map bT).length : Int)).toNat 0 + IntKind.i64.wrap 0) (b := 256) (by have : IntKind.i64.wrap 0 = 0 := rfl; omega) (by omega)
      omega
end Go.Proofs.YtnkpjlpappmccaaDoor
