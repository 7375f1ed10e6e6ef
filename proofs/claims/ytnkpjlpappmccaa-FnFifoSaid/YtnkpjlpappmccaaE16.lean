import Derived.Test.YtnkpjlpappmccaaE15
namespace Go.Proofs.Ytnkpjlpappmccaa
open Go.V
set_option linter.unusedVariables false
set_option linter.unusedSimpArgs false
set_option maxRecDepth 20000
set_option maxHeartbeats 4000000

def bT (b : Int) : List T := [.int .u8 b]
def bytes (B : List Int) : Prop := ∀ b ∈ B, 0 ≤ b ∧ b ≤ 255
theorem bytes.get {B : List Int} (h : bytes B) (k : Nat) : 0 ≤ B.getD k 0 ∧ B.getD k 0 ≤ 255 := by
  rcases Nat.lt_or_ge k B.length with hk | hk
  · rw [List.getD_eq_getElem?_getD, List.getElem?_eq_getElem hk]; exact h _ (List.getElem_mem hk)
  · rw [List.getD_eq_getElem?_getD, List.getElem?_eq_none hk]; exact ⟨Int.le_refl _, by decide⟩
theorem tmod_b {a b : Int} (ha : 0 ≤ a) (hb : 0 < b) : 0 ≤ a.tmod b ∧ a.tmod b < b := ⟨Int.tmod_nonneg _ ha, Int.tmod_lt_of_pos _ hb⟩
theorem p10 (nn : Bool) (B : List Int) (hB : bytes B) (hL : B.length ≤ 1048576) (i m : Int) (hi : 0 ≤ i ∧ i ≤ 3) (hm : 2 ≤ m ∧ m ≤ 100) : ∃ r : Int, (0 ≤ r ∧ r < m) ∧ Pure En 10 [.one (.sl nn (B.map bT)), .one (.int .i64 i), .one (.int .i64 m)] [.one (.int .i64 r)] := by
  have hl : (B.map bT).length = B.length := List.length_map ..
  have g := fun k => hB.get k
  have q1 : 0 ≤ i.tdiv ((B.map bT).length : Int) ∧ i.tdiv ((B.map bT).length : Int) ≤ 3 := by
    have h1 := Int.tdiv_nonneg hi.1 (show (0 : Int) ≤ ((B.map bT).length : Int) by omega)
    have h2 := Int.tdiv_le_self ((B.map bT).length : Int) hi.1
    omega
  have q2 : IntKind.i64.wrap (i.tdiv ((B.map bT).length : Int)) = i.tdiv ((B.map bT).length : Int) := wrap_i64 (by omega) (by omega)
  refine Pure.of_wpX Try.func10 rfl (Nat.le_of_ble_eq_true rfl) ?_
  refine wSeq ?_
  refine wRegion ?_
  refine raI rfl rfl rfl rfl rfl ?_
  refine rNil ?_
  refine qSeq ?_
  refine wSeq ?_
  refine wSeq ?_
  refine wRegion ?_
  refine rmI rfl rfl rfl rfl rfl ?_
  refine rle rfl rfl rfl rfl rfl rfl ?_ ?_ <;> intro h1_1
  · refine rNil ?_
    refine qSeq ?_
    refine wT rfl ?_
    refine wSeq ?_
    refine wRegion ?_
    refine raI rfl rfl rfl rfl rfl ?_
    refine rNil ?_
    refine qSeq ?_
    refine wRet ?_
    refine qSeqR ?_
    exact absurd h1_1 (by omega)
  · refine rNil ?_
    refine qSeq ?_
    refine wF rfl ?_
    refine wSkip ?_
    refine qSeq ?_
    refine wSeq ?_
    refine wSeq ?_
    refine wRegion ?_
    refine rmL rfl rfl rfl rfl rfl ?_
    refine rll rfl rfl rfl rfl rfl rfl ?_
    refine req rfl rfl rfl rfl rfl rfl ?_ ?_ <;> intro h3_2
    · refine rNil ?_
      refine qSeq ?_
      refine wT rfl ?_
      refine wSeq ?_
      refine wRegion ?_
      refine rmI rfl rfl rfl rfl rfl ?_
      refine rmulF rfl rfl rfl ?_ ?_ rfl rfl rfl ?_
      · (first | omega | (have t1 := tmod_b (a := i) (b := ((B.map bT).length : Int)) (by omega) (by omega); have t2 := tmod_b (a := i + 1) (b := ((B.map bT).length : Int)) (by omega) (by omega); have g1 := g (i.tmod ((B.map bT).length : Int)).toNat; have g2 := g ((i + 1).tmod ((B.map bT).length : Int)).toNat; omega))
      · (first | omega | (have t1 := tmod_b (a := i) (b := ((B.map bT).length : Int)) (by omega) (by omega); have t2 := tmod_b (a := i + 1) (b := ((B.map bT).length : Int)) (by omega) (by omega); have g1 := g (i.tmod ((B.map bT).length : Int)).toNat; have g2 := g ((i + 1).tmod ((B.map bT).length : Int)).toNat; omega))
      refine rmI rfl rfl rfl rfl rfl ?_
      refine rrem rfl rfl rfl ?_ rfl rfl rfl ?_
      · (first | omega | (have t1 := tmod_b (a := i) (b := ((B.map bT).length : Int)) (by omega) (by omega); have t2 := tmod_b (a := i + 1) (b := ((B.map bT).length : Int)) (by omega) (by omega); have g1 := g (i.tmod ((B.map bT).length : Int)).toNat; have g2 := g ((i + 1).tmod ((B.map bT).length : Int)).toNat; omega))
      refine raI rfl rfl rfl rfl rfl ?_
      refine rNil ?_
      refine qSeq ?_
      refine wRet ?_
      refine qSeqR ?_
      exact ⟨_, tmod_b (by omega) (by omega), fin rfl rfl⟩
    · refine rNil ?_
      refine qSeq ?_
      refine wF rfl ?_
      refine wSkip ?_
      refine qSeq ?_
      refine wSeq ?_
      refine wDraw [0, 0, 0, 4, 14, 31, 63, 127, 255, 0, 0, 1024, 0, 4096, 15360, 32256, 65024, 130560, 262143, 0, 0, 1048576, 3670016, 8388607, 0, 33554431, 67108863] rfl (by decide +kernel) ?_
      refine dmL rfl rfl rfl rfl rfl ?_
      refine dmI rfl rfl rfl rfl rfl ?_
      refine dmL rfl rfl rfl rfl rfl ?_
      refine dll rfl rfl rfl rfl rfl rfl ?_
      refine drem rfl rfl rfl ?_ rfl rfl rfl ?_
      · (first | omega | (have t1 := tmod_b (a := i) (b := ((B.map bT).length : Int)) (by omega) (by omega); have t2 := tmod_b (a := i + 1) (b := ((B.map bT).length : Int)) (by omega) (by omega); have g1 := g (i.tmod ((B.map bT).length : Int)).toNat; have g2 := g ((i + 1).tmod ((B.map bT).length : Int)).toNat; omega))
      (apply dixl rfl rfl rfl rfl; (first | omega | (have t1 := tmod_b (a := i) (b := ((B.map bT).length : Int)) (by omega) (by omega); have t2 := tmod_b (a := i + 1) (b := ((B.map bT).length : Int)) (by omega) (by omega); have g1 := g (i.tmod ((B.map bT).length : Int)).toNat; have g2 := g ((i + 1).tmod ((B.map bT).length : Int)).toNat; omega)); (first | rfl | assumption | (exact getMap bT 0 (by have t1 := tmod_b (a := i) (b := ((B.map bT).length : Int)) (by omega) (by omega); have t2 := tmod_b (a := i + 1) (b := ((B.map bT).length : Int)) (by omega) (by omega); omega))); rfl; rfl; rfl; rfl)
      refine dlic (v := .int _ _) rfl rfl rfl rfl rfl rfl rfl rfl ?_
      refine dcvF rfl rfl rfl rfl ?_ ?_ rfl rfl rfl ?_
      · (first | exact bt_ge _ _ | exact bt_le _ _ | omega | (first | omega | (have t1 := tmod_b (a := i) (b := ((B.map bT).length : Int)) (by omega) (by omega); have t2 := tmod_b (a := i + 1) (b := ((B.map bT).length : Int)) (by omega) (by omega); have g1 := g (i.tmod ((B.map bT).length : Int)).toNat; have g2 := g ((i + 1).tmod ((B.map bT).length : Int)).toNat; omega)))
      · (first | exact bt_ge _ _ | exact bt_le _ _ | omega | (first | omega | (have t1 := tmod_b (a := i) (b := ((B.map bT).length : Int)) (by omega) (by omega); have t2 := tmod_b (a := i + 1) (b := ((B.map bT).length : Int)) (by omega) (by omega); have g1 := g (i.tmod ((B.map bT).length : Int)).toNat; have g2 := g ((i + 1).tmod ((B.map bT).length : Int)).toNat; omega)))
      refine dmulF rfl rfl rfl ?_ ?_ rfl rfl rfl ?_
      · (first | omega | (have t1 := tmod_b (a := i) (b := ((B.map bT).length : Int)) (by omega) (by omega); have t2 := tmod_b (a := i + 1) (b := ((B.map bT).length : Int)) (by omega) (by omega); have g1 := g (i.tmod ((B.map bT).length : Int)).toNat; have g2 := g ((i + 1).tmod ((B.map bT).length : Int)).toNat; omega))
      · (first | omega | (have t1 := tmod_b (a := i) (b := ((B.map bT).length : Int)) (by omega) (by omega); have t2 := tmod_b (a := i + 1) (b := ((B.map bT).length : Int)) (by omega) (by omega); have g1 := g (i.tmod ((B.map bT).length : Int)).toNat; have g2 := g ((i + 1).tmod ((B.map bT).length : Int)).toNat; omega))
      refine dmL rfl rfl rfl rfl rfl ?_
      refine dmI rfl rfl rfl rfl rfl ?_
      refine daddF rfl rfl rfl ?_ ?_ rfl rfl rfl ?_
      · (first | omega | (have t1 := tmod_b (a := i) (b := ((B.map bT).length : Int)) (by omega) (by omega); have t2 := tmod_b (a := i + 1) (b := ((B.map bT).length : Int)) (by omega) (by omega); have g1 := g (i.tmod ((B.map bT).length : Int)).toNat; have g2 := g ((i + 1).tmod ((B.map bT).length : Int)).toNat; omega))
      · (first | omega | (have t1 := tmod_b (a := i) (b := ((B.map bT).length : Int)) (by omega) (by omega); have t2 := tmod_b (a := i + 1) (b := ((B.map bT).length : Int)) (by omega) (by omega); have g1 := g (i.tmod ((B.map bT).length : Int)).toNat; have g2 := g ((i + 1).tmod ((B.map bT).length : Int)).toNat; omega))
      refine dmL rfl rfl rfl rfl rfl ?_
      refine dll rfl rfl rfl rfl rfl rfl ?_
      refine drem rfl rfl rfl ?_ rfl rfl rfl ?_
      · (first | omega | (have t1 := tmod_b (a := i) (b := ((B.map bT).length : Int)) (by omega) (by omega); have t2 := tmod_b (a := i + 1) (b := ((B.map bT).length : Int)) (by omega) (by omega); have g1 := g (i.tmod ((B.map bT).length : Int)).toNat; have g2 := g ((i + 1).tmod ((B.map bT).length : Int)).toNat; omega))
      (apply dixl rfl rfl rfl rfl; (first | omega | (have t1 := tmod_b (a := i) (b := ((B.map bT).length : Int)) (by omega) (by omega); have t2 := tmod_b (a := i + 1) (b := ((B.map bT).length : Int)) (by omega) (by omega); have g1 := g (i.tmod ((B.map bT).length : Int)).toNat; have g2 := g ((i + 1).tmod ((B.map bT).length : Int)).toNat; omega)); (first | rfl | assumption | (exact getMap bT 0 (by have t1 := tmod_b (a := i) (b := ((B.map bT).length : Int)) (by omega) (by omega); have t2 := tmod_b (a := i + 1) (b := ((B.map bT).length : Int)) (by omega) (by omega); omega))); rfl; rfl; rfl; rfl)
      refine dlic (v := .int _ _) rfl rfl rfl rfl rfl rfl rfl rfl ?_
      refine dcvF rfl rfl rfl rfl ?_ ?_ rfl rfl rfl ?_
      · (first | exact bt_ge _ _ | exact bt_le _ _ | omega | (first | omega | (have t1 := tmod_b (a := i) (b := ((B.map bT).length : Int)) (by omega) (by omega); have t2 := tmod_b (a := i + 1) (b := ((B.map bT).length : Int)) (by omega) (by omega); have g1 := g (i.tmod ((B.map bT).length : Int)).toNat; have g2 := g ((i + 1).tmod ((B.map bT).length : Int)).toNat; omega)))
      · (first | exact bt_ge _ _ | exact bt_le _ _ | omega | (first | omega | (have t1 := tmod_b (a := i) (b := ((B.map bT).length : Int)) (by omega) (by omega); have t2 := tmod_b (a := i + 1) (b := ((B.map bT).length : Int)) (by omega) (by omega); have g1 := g (i.tmod ((B.map bT).length : Int)).toNat; have g2 := g ((i + 1).tmod ((B.map bT).length : Int)).toNat; omega)))
      refine daddF rfl rfl rfl ?_ ?_ rfl rfl rfl ?_
      · (first | omega | (have t1 := tmod_b (a := i) (b := ((B.map bT).length : Int)) (by omega) (by omega); have t2 := tmod_b (a := i + 1) (b := ((B.map bT).length : Int)) (by omega) (by omega); have g1 := g (i.tmod ((B.map bT).length : Int)).toNat; have g2 := g ((i + 1).tmod ((B.map bT).length : Int)).toNat; omega))
      · (first | omega | (have t1 := tmod_b (a := i) (b := ((B.map bT).length : Int)) (by omega) (by omega); have t2 := tmod_b (a := i + 1) (b := ((B.map bT).length : Int)) (by omega) (by omega); have g1 := g (i.tmod ((B.map bT).length : Int)).toNat; have g2 := g ((i + 1).tmod ((B.map bT).length : Int)).toNat; omega))
      refine dmI rfl rfl rfl rfl rfl ?_
      refine dmL rfl rfl rfl rfl rfl ?_
      refine dll rfl rfl rfl rfl rfl rfl ?_
      refine dquo rfl rfl rfl ?_ rfl rfl rfl ?_
      · omega
      refine daddF rfl rfl rfl ?_ ?_ rfl rfl rfl ?_
      · (first | omega | (have t1 := tmod_b (a := i) (b := ((B.map bT).length : Int)) (by omega) (by omega); have t2 := tmod_b (a := i + 1) (b := ((B.map bT).length : Int)) (by omega) (by omega); have g1 := g (i.tmod ((B.map bT).length : Int)).toNat; have g2 := g ((i + 1).tmod ((B.map bT).length : Int)).toNat; omega))
      · (first | omega | (have t1 := tmod_b (a := i) (b := ((B.map bT).length : Int)) (by omega) (by omega); have t2 := tmod_b (a := i + 1) (b := ((B.map bT).length : Int)) (by omega) (by omega); have g1 := g (i.tmod ((B.map bT).length : Int)).toNat; have g2 := g ((i + 1).tmod ((B.map bT).length : Int)).toNat; omega))
      refine dmI rfl rfl rfl rfl rfl ?_
      refine drem rfl rfl rfl ?_ rfl rfl rfl ?_
      · (first | omega | (have t1 := tmod_b (a := i) (b := ((B.map bT).length : Int)) (by omega) (by omega); have t2 := tmod_b (a := i + 1) (b := ((B.map bT).length : Int)) (by omega) (by omega); have g1 := g (i.tmod ((B.map bT).length : Int)).toNat; have g2 := g ((i + 1).tmod ((B.map bT).length : Int)).toNat; omega))
      refine daI rfl rfl rfl rfl rfl ?_
      refine dNilR 27 [0, 0, 0, 0, 0, 0, 0, 0, 0, 0, 0, 0, 0, 0, 0, 0, 0, 0, 0, 0, 0, 0, 0, 0, 0, 0, 0] [] rfl rfl (by decide +kernel) trivial ?_
      refine qSeq ?_
      refine wRet ?_
      refine ⟨_, ?_, fin rfl rfl⟩
      have g1 := g (i.tmod ((B.map bT).length : Int)).toNat
      have g2 := g ((i + 1).tmod ((B.map bT).length : Int)).toNat
      rw [q2]
      exact tmod_b (by omega) (by omega)

end Go.Proofs.Ytnkpjlpappmccaa
