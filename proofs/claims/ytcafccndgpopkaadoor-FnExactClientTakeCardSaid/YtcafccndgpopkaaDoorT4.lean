import Derived.Test.YtcafccndgpopkaaDoorT3
namespace Go.Proofs.YtcafccndgpopkaaDoor
open Go.V
set_option linter.unusedVariables false
set_option linter.unusedSimpArgs false

/-! The two hashes are one: hashB B = sha (strOf B) for bytes. -/
theorem sh8_eq (y : Int) : sh8 y = y.fdiv 256 := rfl
theorem bt8_zero (x : Int) : bt8 x 0 = IntKind.u8.wrap x := by
  have e : min (IntKind.u64.wrap (8 * 0)).toNat IntKind.i64.bits = 0 := by decide
  unfold bt8; rw [e]; exact congrArg _ (Int.fdiv_one x)
theorem u64_8 (i : Nat) (h : i < 8) : min (IntKind.u64.wrap (8 * (i : Int))).toNat IntKind.i64.bits = 8 * i := by
  have e : IntKind.u64.wrap (8 * (i : Int)) = (8 * (i : Int)) % (2 ^ 64 : Int) := rfl
  rw [e, Int.emod_eq_of_lt (by omega) (by omega)]
  have : IntKind.i64.bits = 64 := rfl
  omega
theorem bt8_sh (x : Int) (i : Nat) (h : i + 1 < 8) : bt8 (sh8 x) (i : Int) = bt8 x ((i : Int) + 1) := by
  have e1 := u64_8 i (by omega)
  have e2 := u64_8 (i + 1) h
  rw [show ((i : Int) + 1) = ((i + 1 : Nat) : Int) from rfl]
  unfold bt8
  have p1 : (0 : Int) ≤ 2 ^ (8 * i) := Int.le_of_lt (Int.pow_pos (by decide))
  have p2 : (0 : Int) ≤ 2 ^ (8 * (i + 1)) := Int.le_of_lt (Int.pow_pos (by decide))
  rw [e1, e2, sh8_eq, Int.fdiv_eq_ediv_of_nonneg _ p1, Int.fdiv_eq_ediv_of_nonneg _ p2, Int.fdiv_eq_ediv_of_nonneg _ (by decide), Int.ediv_ediv_of_nonneg (by decide), show 8 * (i + 1) = 8 + 8 * i by omega, Int.pow_add]
  rfl
/-- The first j bytes of m. -/
def topL (x : Int) (m : Nat) : Nat → List Int
  | 0 => []
  | j + 1 => topL x m j ++ [bt8 x ((m : Int) - 1 - (j : Int))]
theorem topL_sh (x : Int) (m : Nat) (hm : m + 1 ≤ 8) : ∀ j, j ≤ m → topL (sh8 x) m j = topL x (m + 1) j
  | 0, _ => rfl
  | j + 1, h => by
    have e : bt8 (sh8 x) (((m : Int) - 1 - (j : Int))) = bt8 x (((m + 1 : Nat) : Int) - 1 - (j : Int)) := by
      rw [show ((m : Int) - 1 - (j : Int)) = ((m - 1 - j : Nat) : Int) by omega, bt8_sh x _ (by omega)]
      congr 1; omega
    unfold topL
    rw [topL_sh x m hm j (by omega), e]
theorem numL_top (m : Nat) : m ≤ 8 → ∀ x, numL x m = topL x m m := by
  induction m with
  | zero => intro _ x; with_unfolding_all rfl
  | succ k ih =>
    intro hm x
    have e : topL x (k + 1) (k + 1) = topL x (k + 1) k ++ [bt8 x (((k + 1 : Nat) : Int) - 1 - (k : Int))] := rfl
    have z : ((k + 1 : Nat) : Int) - 1 - (k : Int) = 0 := by omega
    rw [numL_succ, ih (by omega) (sh8 x), topL_sh x k hm k (Nat.le_refl _), e, z, bt8_zero]
theorem lenL_top (x : Int) : ∀ j, j ≤ 8 → lenL x j = topL x 8 j
  | 0, _ => by rw [lenL_zero]; rfl
  | j + 1, h => by
    have e : topL x 8 (j + 1) = topL x 8 j ++ [bt8 x (((8 : Nat) : Int) - 1 - (j : Int))] := rfl
    rw [lenL_succ, lenL_top x j (by omega), e]
    congr 2
theorem lenL_numL (x : Int) : lenL x 8 = numL x 8 := by rw [lenL_top x 8 (Nat.le_refl _), numL_top 8 (Nat.le_refl _)]
theorem ws4_numL (x : Int) (h0 : 0 ≤ x) (h1 : x < 4294967296) : ws4 x = numL (IntKind.i64.wrap x) 4 := by
  have e : IntKind.i64.wrap x = x := wrap_i64 (by omega) (by omega)
  rw [e, numL_top 4 (by decide)]
  have e4 : topL x 4 4 = [bt8 x 3, bt8 x 2, bt8 x 1, bt8 x 0] := rfl
  rw [e4, bt8_zero]
  rfl
def inW (x : Int) : Prop := 0 ≤ x ∧ x < 4294967296
theorem ad_in (a b : Int) : inW (ad a b) := by
  have e : ad a b = (a + b) % (2 ^ 32 : Int) := rfl
  unfold inW; rw [e]; omega
theorem blks_in (F : List Int) (k i : Nat) : inW ((blks F k).L.getD i 0) := by
  have z : inW 0 := by unfold inW; omega
  cases k with
  | zero =>
    rw [blks_zero]
    unfold q0 W8.L
    match i with
    | 0 | 1 | 2 | 3 | 4 | 5 | 6 | 7 => unfold inW; simp
    | i + 8 => exact z
  | succ k =>
    rw [blks_succ]
    unfold blk8 W8.L
    match i with
    | 0 | 1 | 2 | 3 | 4 | 5 | 6 | 7 => exact ad_in _ _
    | i + 8 => exact z
theorem strOf_app (a b : List Int) : strOf (a ++ b) = strOf a ++ strOf b := by
  apply ByteArray.ext
  simp [strOf]
theorem out_eq (F : List Int) (k : Nat) : ∀ i, strOf (outL (blks F k) i) = outS (blks F k) i
  | 0 => by rw [outL_zero, outS_zero]; rfl
  | i + 1 => by
    have h := blks_in F k i
    rw [outL_succ, outS_succ, strOf_app, out_eq F k i, ws4_numL _ h.1 h.2]
/-- Bytes. -/
def bytes (l : List Int) : Prop := ∀ b ∈ l, 0 ≤ b ∧ b < 256
theorem byt_strOf {l : List Int} (h : bytes l) : byt (strOf l) = l := by
  unfold byt strOf
  simp only [List.map_map]
  conv => rhs; rw [← List.map_id l]
  apply List.map_congr_left
  intro b hb
  have := h b hb
  simp only [Function.comp, id]
  have e : (UInt8.ofNat b.toNat).toNat = b.toNat := by
    rw [UInt8.toNat_ofNat']; omega
  rw [e]; omega
theorem bytes_app {a b : List Int} (ha : bytes a) (hb : bytes b) : bytes (a ++ b) := fun x hx => (List.mem_append.1 hx).elim (ha x) (hb x)
theorem u8_in (x : Int) : 0 ≤ IntKind.u8.wrap x ∧ IntKind.u8.wrap x < 256 := by
  have e : IntKind.u8.wrap x = x % (2 ^ 8 : Int) := rfl
  rw [e]; omega
theorem topL_bytes (x : Int) (m : Nat) : ∀ j, bytes (topL x m j)
  | 0 => fun b hb => nomatch hb
  | j + 1 => bytes_app (topL_bytes x m j) (fun b hb => by rw [List.mem_singleton] at hb; subst hb; exact u8_in _)
theorem numL_bytes (x : Int) (m : Nat) (h : m ≤ 8) : bytes (numL x m) := by rw [numL_top m h]; exact topL_bytes x m m
theorem byt_bytes (s : ByteArray) : bytes (byt s) := fun b hb => by
  obtain ⟨x, _, rfl⟩ := List.mem_map.1 hb
  have := x.toNat_lt
  omega
theorem strOf_byt (s : ByteArray) : strOf (byt s) = s := by
  apply ByteArray.ext
  unfold strOf byt
  apply Array.ext'
  simp only [List.map_map]
  conv => rhs; rw [← List.map_id s.data.toList]
  apply List.map_congr_left
  intro b _
  simp
theorem hash_eq {B : List Int} (hB : bytes B) : hashB B = sha (strOf B) := by
  have e1 : padB B = padL (strOf B) := by
    unfold padB padL
    rw [byt_strOf hB, strOf_size]
  have e2 : shaB B = shaF (strOf B) := by
    unfold shaB shaF
    rw [e1, lenL_numL, strOf_size, byt_strOf (numL_bytes _ 8 (Nat.le_refl _))]
  unfold hashB sha
  rw [out_eq, e2]
/-- spec's hash, as impl's. -/
theorem s103 (nn : Bool) (B : List Int) (hL : B.length ≤ 1000000) (hB : bytes B) : Pure En 103 [.one (.sl nn (B.map bT))] [.one (.str (sha (strOf B)))] := hash_eq hB ▸ e103 nn B hL
end Go.Proofs.YtcafccndgpopkaaDoor
