import Derived.Test.YtnkpjlpappmccaaC13
namespace Go.Proofs.Ytnkpjlpappmccaa
open Go.V
set_option linter.unusedVariables false
set_option linter.unusedSimpArgs false
set_option maxRecDepth 20000
set_option maxHeartbeats 4000000

/-- What is left of k behind the first i strings. -/
def remS (L : List ByteArray) (k : Int) : Nat → Int
  | 0 => k - L.length
  | i + 1 => remS L k i - (L.getD i ⟨#[]⟩).size
noncomputable def szS (L : List ByteArray) (k : Int) : Int := if k < L.length then -1 else if ∃ i, i < L.length ∧ remS L k (i + 1) < 0 then -1 else remS L k L.length
theorem p5 (nn : Bool) (L : List ByteArray) (k : Int) (hL : L.length ≤ 9223372036854775807) (hk : 0 ≤ k ∧ k ≤ 1048576) (hs : ∀ j, j < L.length → (L.getD j ⟨#[]⟩).size ≤ 9223372036854775807) : Pure En 5 [.one (.sl nn (strs L)), .one (.int .i64 k)] [.one (.int .i64 (szS L k))] := by
  have hl := strs_length L
  refine Pure.of_wp Try.func5 rfl (Nat.le_of_ble_eq_true rfl) ?_
  refine wSeq ?_
  refine wRegion ?_
  refine raI rfl rfl rfl rfl rfl ?_
  refine rNil ?_
  refine qSeq ?_
  refine wSeq ?_
  refine wRegion ?_
  refine rmI rfl rfl rfl rfl rfl ?_
  refine rmL rfl rfl rfl rfl rfl ?_
  refine rll rfl rfl rfl rfl rfl rfl ?_
  refine rsubF rfl rfl rfl ?_ ?_ rfl rfl rfl ?_
  · (first | omega | (have := hs i (by omega); have e : (L.getD (i : Int).toNat ⟨#[]⟩).size = (L.getD i ⟨#[]⟩).size := rfl; omega))
  · (first | omega | (have := hs i (by omega); have e : (L.getD (i : Int).toNat ⟨#[]⟩).size = (L.getD i ⟨#[]⟩).size := rfl; omega))
  refine raI (k := .i64) (a := remS L k 0) rfl (congrArg (fun x : Nat => V.int .i64 (k - x)) hl) rfl rfl rfl ?_
  refine rNil ?_
  refine qSeq ?_
  refine wSeq ?_
  refine wSeq ?_
  refine wRegion ?_
  refine rmI rfl rfl rfl rfl rfl ?_
  refine rlt rfl rfl rfl rfl rfl rfl ?_ ?_ <;> intro h2_1
  · refine rNil ?_
    refine qSeq ?_
    refine wT rfl ?_
    refine wSeq ?_
    refine wRegion ?_
    refine raI rfl rfl rfl rfl rfl ?_
    refine rNil ?_
    refine qSeq ?_
    refine wRet ?_
    refine qSeqR ?_
    have e : szS L k = -1 := if_pos (by have h : k - L.length < 0 := h2_1; omega)
    rw [e]; exact fin rfl rfl
  · refine rNil ?_
    refine qSeq ?_
    refine wF rfl ?_
    refine wSkip ?_
    refine qSeq ?_
    refine wSeq ?_
    refine wSeq ?_
    refine wRegion ?_
    refine raI rfl rfl rfl rfl rfl ?_
    refine rNil ?_
    refine qSeq ?_
    refine wBlock ?_
    refine wLoop ?_
    refine loopGo0 (fun (i : Nat) => [.sl false nn (strs L), .int .i64 (remS L k i), .unk, .unk, .unk, .int .i64 i]) (fun (i : Nat) => i ≤ L.length ∧ (∀ j, j < i → 0 ≤ remS L k (j + 1) ∧ remS L k (j + 1) ≤ 1048576) ∧ 0 ≤ remS L k i ∧ remS L k i ≤ 1048576) (fun (i : Nat) => L.length - i) 0 ?_ ?_ ?_
    · exact ⟨Nat.zero_le _, all0, by have h : ¬ k - L.length < 0 := h2_1; unfold remS; omega, by unfold remS; omega⟩
    · (repeat first | exact LE.nil _ | refine LE.unk _ _ ?_ | refine LE.eq _ _ _ rfl ?_)
    intro i hI ih
    obtain ⟨hI1, hI2, hI3, hI4⟩ := id hI
    replace hI := And.intro hI1 hI2
    refine lStep ?_
    refine wSeq ?_
    refine wSeq ?_
    refine wRegion ?_
    refine rmI rfl rfl rfl rfl rfl ?_
    refine rmL rfl rfl rfl rfl rfl ?_
    refine rll rfl rfl rfl rfl rfl rfl ?_
    refine rlt rfl rfl rfl rfl rfl rfl ?_ ?_ <;> intro h5_3
    · refine rNil ?_
      refine qSeq ?_
      refine wT rfl ?_
      refine wSkip ?_
      refine qSeq ?_
      refine wSeq ?_
      refine wBlock ?_
      refine wSeq ?_
      refine wRegion ?_
      refine rmI rfl rfl rfl rfl rfl ?_
      refine rmL rfl rfl rfl rfl rfl ?_
      refine rmI rfl rfl rfl rfl rfl ?_
      (apply rixl rfl rfl rfl rfl; (first | omega | (have := hs i (by omega); have e : (L.getD (i : Int).toNat ⟨#[]⟩).size = (L.getD i ⟨#[]⟩).size := rfl; omega)); (first | rfl | assumption | (exact strs_get (by omega))); rfl; rfl; rfl; rfl)
      refine rlic (v := .str _) rfl rfl rfl rfl rfl rfl rfl rfl ?_
      refine rls rfl rfl rfl rfl rfl rfl ?_
      refine rsubF rfl rfl rfl ?_ ?_ rfl rfl rfl ?_
      · (first | omega | (have := hs i (by omega); have e : (L.getD (i : Int).toNat ⟨#[]⟩).size = (L.getD i ⟨#[]⟩).size := rfl; omega))
      · (first | omega | (have := hs i (by omega); have e : (L.getD (i : Int).toNat ⟨#[]⟩).size = (L.getD i ⟨#[]⟩).size := rfl; omega))
      refine raI (k := .i64) (a := remS L k (i + 1)) rfl rfl rfl rfl rfl ?_
      refine rNil ?_
      refine qSeq ?_
      refine wSeq ?_
      refine wRegion ?_
      refine rmI rfl rfl rfl rfl rfl ?_
      refine rlt rfl rfl rfl rfl rfl rfl ?_ ?_ <;> intro h8_1
      · refine rNil ?_
        refine qSeq ?_
        refine wT rfl ?_
        refine wSeq ?_
        refine wRegion ?_
        refine raI rfl rfl rfl rfl rfl ?_
        refine rNil ?_
        refine qSeq ?_
        refine wRet ?_
        refine qBlockR ?_
        refine qSeqR ?_
        refine qLoopR ?_
        refine qBlockR ?_
        refine qSeqR ?_
        have e : szS L k = -1 := by
          unfold szS; rw [if_neg (by have h : ¬ k - L.length < 0 := h2_1; omega), if_pos ⟨i, by omega, h8_1⟩]
        rw [e]; exact fin rfl rfl
      · refine rNil ?_
        refine qSeq ?_
        refine wF rfl ?_
        refine wSkip ?_
        refine qBlock ?_
        refine qSeq ?_
        refine wRegion ?_
        refine rmI rfl rfl rfl rfl rfl ?_
        refine raddF rfl rfl rfl ?_ ?_ rfl rfl rfl ?_
        · (first | omega | (have := hs i (by omega); have e : (L.getD (i : Int).toNat ⟨#[]⟩).size = (L.getD i ⟨#[]⟩).size := rfl; omega))
        · (first | omega | (have := hs i (by omega); have e : (L.getD (i : Int).toNat ⟨#[]⟩).size = (L.getD i ⟨#[]⟩).size := rfl; omega))
        refine raI rfl rfl rfl rfl rfl ?_
        refine rNil ?_
        refine qLoop ?_
        have g : 0 ≤ remS L k (i + 1) ∧ remS L k (i + 1) ≤ 1048576 := ⟨by omega, by unfold remS; omega⟩
        exact wlN (ih (i + 1) ⟨by omega, allS hI2 g, g.1, g.2⟩ (by omega)) (by (repeat first | exact LE.nil _ | refine LE.unk _ _ ?_ | refine LE.eq _ _ _ rfl ?_))
    · refine rNil ?_
      refine qSeq ?_
      refine wF rfl ?_
      refine wExit ?_
      refine qSeqX ?_
      refine qLoopX ?_
      refine qBlockX ?_
      refine qSeq ?_
      refine wSeq ?_
      refine wRegion ?_
      refine rmI rfl rfl rfl rfl rfl ?_
      refine raI rfl rfl rfl rfl rfl ?_
      refine rNil ?_
      refine qSeq ?_
      refine wRet ?_
      obtain rfl : i = L.length := by omega
      have e : szS L k = remS L k L.length := by
        unfold szS; rw [if_neg (by have h : ¬ k - L.length < 0 := h2_1; omega), if_neg (by rintro ⟨j, hj, hj2⟩; have := (hI.2 j hj).1; omega)]
      rw [e]; exact fin rfl rfl

theorem szS_len {L : List ByteArray} {k : Int} (h : ¬ szS L k < 0) : (L.length : Int) ≤ k := by
  rcases Int.lt_or_le k L.length with h1 | h1
  · exact absurd (show szS L k < 0 by unfold szS; rw [if_pos h1]; decide) h
  · exact h1
def mkEs (L : List ByteArray) (i : Nat) : List (List V) := rowsV (strs (L.take i)) ++ List.replicate ((strs L).length - i) [.str ⟨#[]⟩]
theorem mkEs_len {L : List ByteArray} {i : Nat} (h : i ≤ L.length) : (mkEs L i).length = L.length := by
  unfold mkEs
  rw [List.length_append, rowsV_length, strs_length, List.length_take, List.length_replicate, strs_length]; omega
theorem mkEs_get {L : List ByteArray} {i : Nat} (h : i < L.length) : (mkEs L i)[0 + i]? = some [.str ⟨#[]⟩] := by
  have e : (rowsV (strs (L.take i))).length = i := by rw [rowsV_length, strs_length, List.length_take]; omega
  unfold mkEs
  rw [Nat.zero_add, List.getElem?_append_right (by omega), e, Nat.sub_self, strs_length, List.getElem?_replicate, if_pos (by omega)]
theorem mkEs_set {L : List ByteArray} {i : Nat} (h : i < L.length) : (mkEs L i).set (0 + i) [.str (L.getD i ⟨#[]⟩)] = mkEs L (i + 1) := by
  have e : (rowsV (strs (L.take i))).length = i := by rw [rowsV_length, strs_length, List.length_take]; omega
  unfold mkEs
  rw [Nat.zero_add, List.set_append_right _ _ (by omega), e, Nat.sub_self, strs_length]
  have e2 : L.length - i = (L.length - (i + 1)) + 1 := by omega
  rw [e2, List.replicate_succ, List.set_cons_zero]
  have e3 : L.take (i + 1) = L.take i ++ [L.getD i ⟨#[]⟩] := by
    rw [List.take_add_one]; simp [h]
  rw [e3]
  unfold strs
  rw [List.map_append, rowsV_append, List.append_assoc]
  rfl
theorem mkEs_full (L : List ByteArray) : mkEs L L.length = rowsV (strs L) := by
  unfold mkEs; rw [strs_length, Nat.sub_self, List.take_length]; simp
theorem p7 (nn : Bool) (L : List ByteArray) (hL : L.length ≤ 1048576) : Pure En 7 [.one (.sl nn (strs L))] [.one (.sl true (strs L))] := by
  have hl := strs_length L
  refine Pure.of_wp Try.func7 rfl (Nat.le_of_ble_eq_true rfl) ?_
  refine wSeq ?_
  refine wRegion ?_
  refine raN rfl rfl rfl rfl rfl ?_
  refine rNil ?_
  refine qSeq ?_
  refine wSeq ?_
  refine wRegion ?_
  refine rmL rfl rfl rfl rfl rfl ?_
  refine rll rfl rfl rfl rfl rfl rfl ?_
  refine rmk (s' := 16) rfl rfl rfl rfl rfl rfl (Nat.succ_ne_zero _) ?_ ?_ rfl rfl rfl ?_
  · (first | omega | assumption | (focus (simp; omega)))
  · (first | omega | assumption | (focus (simp; omega)))
  refine raV rfl rfl rfl rfl rfl ?_
  refine rNil ?_
  refine qSeq ?_
  refine wSeq ?_
  refine wSeq ?_
  refine wRegion ?_
  refine raI rfl rfl rfl rfl rfl ?_
  refine rNil ?_
  refine qSeq ?_
  refine wBlock ?_
  refine wLoop ?_
  refine loopGo (fun (i : Nat) => [.sl false nn (strs L), .unk, .unk, .view 0 0 (strs L).length, .int .i64 i]) (fun (i : Nat) => hp [(0, ⟨mkEs L i, 1, 9⟩)]) (fun (i : Nat) => 1) (fun (i : Nat) => i ≤ L.length) (fun (i : Nat) => L.length - i) 0 ?_ ?_ ?_ ?_ ?_
  · exact Nat.zero_le _
  · (repeat first | exact LE.nil _ | refine LE.unk _ _ ?_ | refine LE.eq _ _ _ rfl ?_)
  · exact lessHc rfl lessH0
  · exact Nat.le_refl _
  intro i hI ih
  refine lStep ?_
  refine wSeq ?_
  refine wSeq ?_
  refine wRegion ?_
  refine rmI rfl rfl rfl rfl rfl ?_
  refine rmL rfl rfl rfl rfl rfl ?_
  refine rll rfl rfl rfl rfl rfl rfl ?_
  refine rlt rfl rfl rfl rfl rfl rfl ?_ ?_ <;> intro h3_3
  · refine rNil ?_
    refine qSeq ?_
    refine wT rfl ?_
    refine wSkip ?_
    refine qSeq ?_
    refine wSeq ?_
    refine wBlock ?_
    refine wRegion ?_
    refine rmV rfl rfl rfl rfl rfl ?_
    refine rmI rfl rfl rfl rfl rfl ?_
    refine rmL rfl rfl rfl rfl rfl ?_
    refine rmI rfl rfl rfl rfl rfl ?_
    (apply rixl rfl rfl rfl rfl; (first | omega | assumption | (focus (simp; omega))); (first | rfl | assumption | (exact strs_get (by omega))); rfl; rfl; rfl; rfl)
    refine rlic (v := .str _) rfl rfl rfl rfl rfl rfl rfl rfl ?_
    (apply rixv rfl rfl rfl rfl; (first | rfl | assumption | ((simp (disch := omega) only [app, upd, hp, if_pos, if_neg]); first | rfl | assumption)); rfl; (first | omega | assumption | (focus (simp; omega))); (first | omega | assumption | (focus (simp; omega))); rfl; rfl; rfl)
    (apply rst rfl rfl rfl; rfl; exact mkEs_get (by omega); rfl; rfl; rfl; rfl; (exact Nat.le_of_ble_eq_true rfl); rfl; rfl; rfl)
    refine rNil ?_
    refine qBlock ?_
    refine qSeq ?_
    refine wRegion ?_
    refine rmI rfl rfl rfl rfl rfl ?_
    refine raddF rfl rfl rfl ?_ ?_ rfl rfl rfl ?_
    · (first | omega | assumption | (focus (simp; omega)))
    · (first | omega | assumption | (focus (simp; omega)))
    refine raI rfl rfl rfl rfl rfl ?_
    refine rNil ?_
    refine qLoop ?_
    exact wlH (ih (i + 1) (by omega) (by omega)) (by (repeat first | exact LE.nil _ | refine LE.unk _ _ ?_ | refine LE.eq _ _ _ rfl ?_)) (lessHc (congrArg (fun es => some (Blk.mk es 1 9)) (mkEs_set (by omega))) lessH0) (Nat.le_refl _)
  · refine rNil ?_
    refine qSeq ?_
    refine wF rfl ?_
    refine wExit ?_
    refine qSeqX ?_
    refine qLoopX ?_
    refine qBlockX ?_
    refine qSeq ?_
    refine wSeq ?_
    refine wRegion ?_
    refine rmV rfl rfl rfl rfl rfl ?_
    refine raV rfl rfl rfl rfl rfl ?_
    refine rNil ?_
    refine qSeq ?_
    refine wRet ?_
    obtain rfl : i = L.length := by omega
    refine finS (xs := [.view 0 0 (strs L).length]) [0] rfl (.cons _ _ _ _ (.one _ _ (snapView (strs L) (by simp) rfl (mkEs_full L) rfl)) .nil)

theorem p3 (nn : Bool) (L : List ByteArray) (c st : Int) (hL : L.length ≤ 9223372036854775807) (hs : ∀ j, j < L.length → (L.getD j ⟨#[]⟩).size ≤ 9223372036854775807) : Pure En 3 [.one (.sl nn (strs L)), .one (.int .i64 c), .one (.int .i64 st)] [.one (.bool true)] := by
  refine Pure.of_wp Try.func3 rfl (Nat.le_of_ble_eq_true rfl) ?_
  refine wSeq ?_
  refine wRegion ?_
  refine raB rfl rfl rfl rfl rfl ?_
  refine rNil ?_
  refine qSeq ?_
  refine wSeq ?_
  refine wRegion ?_
  refine raI rfl rfl rfl rfl rfl ?_
  refine rNil ?_
  refine qSeq ?_
  refine wSeq ?_
  refine wRegion ?_
  refine rmL rfl rfl rfl rfl rfl ?_
  refine rmI rfl rfl rfl rfl rfl ?_
  refine rcl (p5 nn L 1048576 hL (by decide) hs) rfl rfl rfl rfl rfl rfl ?_
  refine raI rfl rfl rfl rfl rfl ?_
  refine rNil ?_
  refine qSeq ?_
  refine wSeq ?_
  refine wSeq ?_
  refine wRegion ?_
  refine rmI rfl rfl rfl rfl rfl ?_
  refine rlt rfl rfl rfl rfl rfl rfl ?_ ?_ <;> intro h3_1
  · refine rNil ?_
    refine qSeq ?_
    refine wT rfl ?_
    refine wSeq ?_
    refine wRegion ?_
    refine raB rfl rfl rfl rfl rfl ?_
    refine rNil ?_
    refine qSeq ?_
    refine wRet ?_
    refine qSeqR ?_
    first
      | exact fin rfl rfl
      | omega
      | exact absurd rfl h8_2
      | exact absurd rfl h8_6
      | exact absurd rfl h10_3
  · refine rNil ?_
    refine qSeq ?_
    refine wF rfl ?_
    refine wSkip ?_
    refine qSeq ?_
    refine wSeq ?_
    refine wRegion ?_
    refine rmL rfl rfl rfl rfl rfl ?_
    refine rcl (p7 nn L (by have := szS_len h3_1; omega)) rfl rfl rfl rfl rfl rfl ?_
    refine rmI rfl rfl rfl rfl rfl ?_
    refine rmI rfl rfl rfl rfl rfl ?_
    refine rcl (p6 true L c st) rfl rfl rfl rfl rfl rfl ?_
    refine rmT rfl rfl rfl rfl rfl ?_
    refine rex rfl rfl rfl rfl rfl rfl ?_
    refine rex rfl rfl rfl rfl rfl rfl ?_
    refine raI rfl rfl rfl rfl rfl ?_
    refine raI rfl rfl rfl rfl rfl ?_
    refine rNil ?_
    refine qSeq ?_
    refine wSeq ?_
    refine wRegion ?_
    refine rmL rfl rfl rfl rfl rfl ?_
    refine rcl (p7 nn L (by have := szS_len h3_1; omega)) rfl rfl rfl rfl rfl rfl ?_
    refine raL rfl rfl rfl rfl rfl ?_
    refine rNil ?_
    refine qSeq ?_
    refine wSeq ?_
    refine wRegion ?_
    refine rmL rfl rfl rfl rfl rfl ?_
    refine rmI rfl rfl rfl rfl rfl ?_
    refine rmI rfl rfl rfl rfl rfl ?_
    refine rcl (p8 true L c st (by have := szS_len h3_1; omega)) rfl rfl rfl rfl rfl rfl ?_
    refine rmT rfl rfl rfl rfl rfl ?_
    refine rex rfl rfl rfl rfl rfl rfl ?_
    refine rex rfl rfl rfl rfl rfl rfl ?_
    refine raI rfl rfl rfl rfl rfl ?_
    refine raI rfl rfl rfl rfl rfl ?_
    refine rNil ?_
    refine qSeq ?_
    refine wSeq ?_
    refine wSeq ?_
    refine wRegion ?_
    refine rmI rfl rfl rfl rfl rfl ?_
    refine rmI rfl rfl rfl rfl rfl ?_
    refine rne rfl rfl rfl rfl rfl rfl ?_ ?_ <;> intro h8_2
    · refine rmB rfl rfl rfl rfl rfl ?_
      refine rSkip rfl rfl rfl ?_
      refine rSkip rfl rfl rfl ?_
      refine rSkip rfl rfl rfl ?_
      refine rpk (e := true) rfl rfl rfl rfl rfl rfl ?_
      refine rNil ?_
      refine qSeq ?_
      refine wT rfl ?_
      refine wSeq ?_
      refine wRegion ?_
      refine raB rfl rfl rfl rfl rfl ?_
      refine rNil ?_
      refine qSeq ?_
      refine wRet ?_
      refine qSeqR ?_
      first
        | exact fin rfl rfl
        | omega
        | exact absurd rfl h8_2
        | exact absurd rfl h8_6
        | exact absurd rfl h10_3
    · refine rmB rfl rfl rfl rfl rfl ?_
      refine rmI rfl rfl rfl rfl rfl ?_
      refine rmI rfl rfl rfl rfl rfl ?_
      refine rne rfl rfl rfl rfl rfl rfl ?_ ?_ <;> intro h8_6
      · refine rpk (e := true) rfl rfl rfl rfl rfl rfl ?_
        refine rNil ?_
        refine qSeq ?_
        refine wT rfl ?_
        refine wSeq ?_
        refine wRegion ?_
        refine raB rfl rfl rfl rfl rfl ?_
        refine rNil ?_
        refine qSeq ?_
        refine wRet ?_
        refine qSeqR ?_
        first
          | exact fin rfl rfl
          | omega
          | exact absurd rfl h8_2
          | exact absurd rfl h8_6
          | exact absurd rfl h10_3
      · refine rpk (e := false) rfl rfl rfl rfl rfl rfl ?_
        refine rNil ?_
        refine qSeq ?_
        refine wF rfl ?_
        refine wSkip ?_
        refine qSeq ?_
        refine wSeq ?_
        refine wSeq ?_
        refine wRegion ?_
        refine rmL rfl rfl rfl rfl rfl ?_
        refine rmL rfl rfl rfl rfl rfl ?_
        refine rcl (p7 nn L (by have := szS_len h3_1; omega)) rfl rfl rfl rfl rfl rfl ?_
        refine rclP (p9 true true L L (by have := szS_len h3_1; omega)) rfl rfl rfl rfl rfl rfl ?_ ?_ <;> intro h10_3
        · refine rnot (c := true) rfl rfl rfl rfl rfl ?_
          refine rNil ?_
          refine qSeq ?_
          refine wF rfl ?_
          refine wSkip ?_
          refine qSeq ?_
          refine wSeq ?_
          refine wRegion ?_
          refine raB rfl rfl rfl rfl rfl ?_
          refine rNil ?_
          refine qSeq ?_
          refine wRet ?_
          first
            | exact fin rfl rfl
            | omega
            | exact absurd rfl h8_2
            | exact absurd rfl h8_6
            | exact absurd rfl h10_3
        · refine rnot (c := false) rfl rfl rfl rfl rfl ?_
          refine rNil ?_
          refine qSeq ?_
          refine wT rfl ?_
          refine wSeq ?_
          refine wRegion ?_
          refine raB rfl rfl rfl rfl rfl ?_
          refine rNil ?_
          refine qSeq ?_
          refine wRet ?_
          refine qSeqR ?_
          first
            | exact fin rfl rfl
            | omega
            | exact absurd rfl h8_2
            | exact absurd rfl h8_6
            | exact absurd rfl h10_3
end Go.Proofs.Ytnkpjlpappmccaa
