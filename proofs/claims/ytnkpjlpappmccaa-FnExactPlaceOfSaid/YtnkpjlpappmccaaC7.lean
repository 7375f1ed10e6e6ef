import Derived.Test.YtnkpjlpappmccaaC6
namespace Go.Proofs.Ytnkpjlpappmccaa
open Go.V
set_option linter.unusedVariables false
set_option linter.unusedSimpArgs false
set_option maxRecDepth 20000
set_option maxHeartbeats 4000000

theorem bits_or8 {x y : Int} (h1 : 0 ≤ x) (h2 : x ≤ 16777215) (h3 : 0 ≤ y) (h4 : y ≤ 255) : bits .or .i64 (IntKind.i64.wrap (x * 2 ^ (min (8 : Int).toNat IntKind.i64.bits))) y = x * 256 + y := by
  obtain ⟨a, rfl⟩ := Int.eq_ofNat_of_zero_le h1
  obtain ⟨b, rfl⟩ := Int.eq_ofNat_of_zero_le h3
  have e : (2 : Int) ^ (min (8 : Int).toNat IntKind.i64.bits) = 256 := by decide
  rw [e, wrap_i64 (by omega) (by omega)]
  unfold bits
  dsimp only
  have e1 : ((a : Int) * 256) = ((a * 256 : Nat) : Int) := by omega
  rw [e1, BitVec.ofInt_natCast, BitVec.ofInt_natCast, BitVec.toNat_or, BitVec.toNat_ofNat, BitVec.toNat_ofNat]
  have hb : IntKind.i64.bits = 64 := rfl
  rw [hb, Nat.mod_eq_of_lt (by omega), Nat.mod_eq_of_lt (by omega)]
  have e2 : a * 256 ||| b = a * 256 + b := by
    have := Nat.shiftLeft_add_eq_or_of_lt (i := 8) (b := b) (by omega) a
    rw [Nat.shiftLeft_eq] at this
    exact this.symm
  rw [e2, wrap_i64 (by omega) (by omega)]
  omega

def rdrB (x : ByteArray × Bool) : Blk := ⟨[[.str x.1, .bool x.2]], 2, 102⟩
/-- What a reader takes, and what it is then. -/
def takeS (x : ByteArray × Bool) (k : Int) : ByteArray × ByteArray × Bool :=
  if x.2 = true ∨ k > x.1.size then (⟨#[]⟩, x.1, true) else (x.1.extract 0 k.toNat, x.1.extract k.toNat x.1.size, x.2)

theorem take_bad {x : ByteArray × Bool} {k : Int} (h : x.2 = true) : takeS x k = (⟨#[]⟩, x.1, true) := if_pos (.inl h)
theorem take_long {x : ByteArray × Bool} {k : Int} (h : k > x.1.size) : takeS x k = (⟨#[]⟩, x.1, true) := if_pos (.inr h)
theorem take_ok {x : ByteArray × Bool} {k : Int} (h1 : x.2 = false) (h2 : ¬ k > x.1.size) : takeS x k = (x.1.extract 0 k.toNat, x.1.extract k.toNat x.1.size, x.2) :=
  if_neg fun h => h.elim (fun h => absurd (h1.symm.trans h) Bool.false_ne_true) h2

theorem o58 (x : ByteArray × Bool) (k : Int) {id : Nat} {h : Heap} {n : Nat} (h0 : 0 ≤ k) (hb : h id = some (rdrB x)) : V.Open En 58 [.ptr id 0 0, .int .i64 k] h n (.str (takeS x k).1) [(id, some (rdrB (takeS x k).2))] n := by
  refine V.Open.of_wp Try.func58 rfl (Nat.le_of_ble_eq_true rfl) ?_
  refine wSeq ?_
  refine wRegion ?_
  refine raS rfl rfl rfl rfl rfl ?_
  refine rNil ?_
  refine qSeq ?_
  refine wSeq ?_
  refine wSeq ?_
  refine wRegion ?_
  refine rmP rfl rfl rfl rfl rfl ?_
  refine rnc (v := .ptr _ _ _) rfl rfl rfl rfl rfl rfl ?_
  refine rfa (off := 1) (s := 1) (r := false) rfl rfl rfl (Nat.succ_ne_zero _) rfl rfl rfl ?_
  ((apply rlcB rfl rfl; (first | rfl | assumption | ((simp (disch := omega) only [app, upd, hp, if_pos, if_neg]); first | rfl | assumption)); rfl; rfl; rfl; rfl; rfl; rfl)) <;> intro h1_3
  · refine rmB rfl rfl rfl rfl rfl ?_
    refine rSkip rfl rfl rfl ?_
    refine rSkip rfl rfl rfl ?_
    refine rSkip rfl rfl rfl ?_
    refine rSkip rfl rfl rfl ?_
    refine rSkip rfl rfl rfl ?_
    refine rSkip rfl rfl rfl ?_
    refine rSkip rfl rfl rfl ?_
    refine rpk (e := true) rfl rfl rfl rfl rfl rfl ?_
    refine rNil ?_
    refine qSeq ?_
    refine wT rfl ?_
    refine wSeq ?_
    refine wRegion ?_
    refine rmP rfl rfl rfl rfl rfl ?_
    refine rnc (v := .ptr _ _ _) rfl rfl rfl rfl rfl rfl ?_
    refine rfa (off := 1) (s := 1) (r := false) rfl rfl rfl (Nat.succ_ne_zero _) rfl rfl rfl ?_
    (apply rst rfl rfl rfl; (first | rfl | assumption | ((simp (disch := omega) only [app, upd, hp, if_pos, if_neg]); first | rfl | assumption)); rfl; rfl; rfl; rfl; rfl; (exact Nat.le_of_ble_eq_true rfl); rfl; rfl; rfl)
    refine rNil ?_
    refine qSeq ?_
    refine wSeq ?_
    refine wRegion ?_
    refine raS rfl rfl rfl rfl rfl ?_
    refine rNil ?_
    refine qSeq ?_
    refine wRet ?_
    refine qSeqR ?_
    first
      | (rw [take_bad h1_3]; exact finO rfl rfl (fun _ _ _ e => e) (Nat.le_refl _))
      | (rw [take_long h1_11]; exact finO rfl rfl (fun _ _ _ e => e) (Nat.le_refl _))
      | (rw [take_ok h1_3 h1_11]; exact finO rfl rfl (fun _ _ _ e => e) (Nat.le_refl _))
  · refine rmB rfl rfl rfl rfl rfl ?_
    refine rmI rfl rfl rfl rfl rfl ?_
    refine rmP rfl rfl rfl rfl rfl ?_
    refine rnc (v := .ptr _ _ _) rfl rfl rfl rfl rfl rfl ?_
    refine rfa (off := 0) (s := 1) (r := false) rfl rfl rfl (Nat.succ_ne_zero _) rfl rfl rfl ?_
    (apply rlc (v := .str _) rfl rfl; (first | rfl | assumption | ((simp (disch := omega) only [app, upd, hp, if_pos, if_neg]); first | rfl | assumption)); rfl; rfl; rfl; rfl; rfl; rfl)
    refine rls rfl rfl rfl rfl rfl rfl ?_
    refine rgt rfl rfl rfl rfl rfl rfl ?_ ?_ <;> intro h1_11
    · refine rpk (e := true) rfl rfl rfl rfl rfl rfl ?_
      refine rNil ?_
      refine qSeq ?_
      refine wT rfl ?_
      refine wSeq ?_
      refine wRegion ?_
      refine rmP rfl rfl rfl rfl rfl ?_
      refine rnc (v := .ptr _ _ _) rfl rfl rfl rfl rfl rfl ?_
      refine rfa (off := 1) (s := 1) (r := false) rfl rfl rfl (Nat.succ_ne_zero _) rfl rfl rfl ?_
      (apply rst rfl rfl rfl; (first | rfl | assumption | ((simp (disch := omega) only [app, upd, hp, if_pos, if_neg]); first | rfl | assumption)); rfl; rfl; rfl; rfl; rfl; (exact Nat.le_of_ble_eq_true rfl); rfl; rfl; rfl)
      refine rNil ?_
      refine qSeq ?_
      refine wSeq ?_
      refine wRegion ?_
      refine raS rfl rfl rfl rfl rfl ?_
      refine rNil ?_
      refine qSeq ?_
      refine wRet ?_
      refine qSeqR ?_
      first
        | (rw [take_bad h1_3]; exact finO rfl rfl (fun _ _ _ e => e) (Nat.le_refl _))
        | (rw [take_long h1_11]; exact finO rfl rfl (fun _ _ _ e => e) (Nat.le_refl _))
        | (rw [take_ok h1_3 h1_11]; exact finO rfl rfl (fun _ _ _ e => e) (Nat.le_refl _))
    · refine rpk (e := false) rfl rfl rfl rfl rfl rfl ?_
      refine rNil ?_
      refine qSeq ?_
      refine wF rfl ?_
      refine wSkip ?_
      refine qSeq ?_
      refine wSeq ?_
      refine wRegion ?_
      refine rmP rfl rfl rfl rfl rfl ?_
      refine rnc (v := .ptr _ _ _) rfl rfl rfl rfl rfl rfl ?_
      refine rfa (off := 0) (s := 1) (r := false) rfl rfl rfl (Nat.succ_ne_zero _) rfl rfl rfl ?_
      (apply rlc (v := .str _) rfl rfl; (first | rfl | assumption | ((simp (disch := omega) only [app, upd, hp, if_pos, if_neg]); first | rfl | assumption)); rfl; rfl; rfl; rfl; rfl; rfl)
      refine rmI rfl rfl rfl rfl rfl ?_
      refine rsls rfl rfl rfl rfl rfl ?_ ?_ ?_ rfl rfl rfl ?_
      · (first | omega | assumption | (focus (simp; omega)))
      · (first | omega | assumption | (focus (simp; omega)))
      · (first | omega | assumption | (focus (simp; omega)))
      refine raS rfl rfl rfl rfl rfl ?_
      refine rNil ?_
      refine qSeq ?_
      refine wSeq ?_
      refine wRegion ?_
      refine rmP rfl rfl rfl rfl rfl ?_
      refine rmP rfl rfl rfl rfl rfl ?_
      refine rnc (v := .ptr _ _ _) rfl rfl rfl rfl rfl rfl ?_
      refine rfa (off := 0) (s := 1) (r := false) rfl rfl rfl (Nat.succ_ne_zero _) rfl rfl rfl ?_
      (apply rlc (v := .str _) rfl rfl; (first | rfl | assumption | ((simp (disch := omega) only [app, upd, hp, if_pos, if_neg]); first | rfl | assumption)); rfl; rfl; rfl; rfl; rfl; rfl)
      refine rmI rfl rfl rfl rfl rfl ?_
      refine rsls rfl rfl rfl rfl rfl ?_ ?_ ?_ rfl rfl rfl ?_
      · (first | omega | assumption | (focus (simp; omega)))
      · (first | omega | assumption | (focus (simp; omega)))
      · (first | omega | assumption | (focus (simp; omega)))
      refine rnc (v := .ptr _ _ _) rfl rfl rfl rfl rfl rfl ?_
      refine rfa (off := 0) (s := 1) (r := false) rfl rfl rfl (Nat.succ_ne_zero _) rfl rfl rfl ?_
      (apply rst rfl rfl rfl; (first | rfl | assumption | ((simp (disch := omega) only [app, upd, hp, if_pos, if_neg]); first | rfl | assumption)); rfl; rfl; rfl; rfl; rfl; (exact Nat.le_of_ble_eq_true rfl); rfl; rfl; rfl)
      refine rNil ?_
      refine qSeq ?_
      refine wSeq ?_
      refine wRegion ?_
      refine rmS rfl rfl rfl rfl rfl ?_
      refine raS rfl rfl rfl rfl rfl ?_
      refine rNil ?_
      refine qSeq ?_
      refine wRet ?_
      first
        | (rw [take_bad h1_3]; exact finO rfl rfl (fun _ _ _ e => e) (Nat.le_refl _))
        | (rw [take_long h1_11]; exact finO rfl rfl (fun _ _ _ e => e) (Nat.le_refl _))
        | (rw [take_ok h1_3 h1_11]; exact finO rfl rfl (fun _ _ _ e => e) (Nat.le_refl _))

theorem take_size (x : ByteArray × Bool) (k : Int) (h0 : 0 ≤ k) : ((takeS x k).1.size : Int) ≤ k := by
  unfold takeS
  split
  · exact h0
  · rename_i h
    have : ¬ k > x.1.size := fun e => h (.inr e)
    rw [size_extract _ _ _ (by omega)]; omega
theorem byteRow {p : ByteArray} {i : Nat} (h : i < p.size) : (p.data.toList.map fun b => [V.int .u8 b.toNat])[0 + i]? = some [.int .u8 (bt p i)] := by
  have h' : i < p.data.size := h
  have e : p.data[i]? = some p.data[i] := by simp [h']
  simp [bt, e]

theorem o57 (x : ByteArray × Bool) (k : Int) {id : Nat} {h : Heap} {n : Nat} (h0 : 0 ≤ k) (h4 : k ≤ 4) (hb : h id = some (rdrB x)) (hn : id < n) : V.Open En 57 [.ptr id 0 0, .int .i64 k] h n (.int .i64 (be (takeS x k).1 0 (takeS x k).1.size)) [(id, some (rdrB (takeS x k).2))] (n + 1) := by
  have hsz := take_size x k h0
  refine V.Open.of_wp Try.func57 rfl (Nat.le_of_ble_eq_true rfl) ?_
  refine wSeq ?_
  refine wRegion ?_
  refine raI rfl rfl rfl rfl rfl ?_
  refine rNil ?_
  refine qSeq ?_
  refine wSeq ?_
  refine wRegion ?_
  refine raI rfl rfl rfl rfl rfl ?_
  refine rNil ?_
  refine qSeq ?_
  refine wSeq ?_
  refine wSeq ?_
  refine wRegion ?_
  refine rmP rfl rfl rfl rfl rfl ?_
  refine rmI rfl rfl rfl rfl rfl ?_
  refine rop (o58 x k ?_ ?_) rfl rfl rfl rfl rfl rfl ?_
  · (first | omega | (first | rfl | assumption | ((simp (disch := omega) only [app, upd, hp, if_pos, if_neg]); first | rfl | assumption)) | (first | omega | assumption | (focus (simp; omega))))
  · (first | omega | (first | rfl | assumption | ((simp (disch := omega) only [app, upd, hp, if_pos, if_neg]); first | rfl | assumption)) | (first | omega | assumption | (focus (simp; omega))))
  refine rbt rfl rfl rfl rfl rfl rfl rfl rfl ?_
  refine rll rfl rfl rfl rfl rfl rfl ?_
  refine rmI rfl rfl rfl rfl rfl ?_
  refine rNil ?_
  refine qSeq ?_
  refine wBlock ?_
  refine wLoop ?_
  refine loopGo0 (fun (i : Nat) => [.unk, .unk, .unk, .unk, .unk, .int .i64 (be (takeS x k).1 0 i), .unk, .unk, .unk, .unk, .unk, .view n 0 (takeS x k).1.size, .int .i64 (takeS x k).1.size, .int .i64 i]) (fun (i : Nat) => i ≤ (takeS x k).1.size) (fun (i : Nat) => (takeS x k).1.size - i) 0 ?_ ?_ ?_
  · exact Nat.zero_le _
  · (repeat first | exact LE.nil _ | refine LE.unk _ _ ?_ | refine LE.eq _ _ _ rfl ?_)
  intro i hI ih
  refine lStep ?_
  refine wSeq ?_
  refine wRegion ?_
  refine rlt rfl rfl rfl rfl rfl rfl ?_ ?_ <;> intro h3_0
  · refine rNil ?_
    refine qSeq ?_
    refine wSeq ?_
    refine wT rfl ?_
    refine wSkip ?_
    refine qSeq ?_
    refine wSeq ?_
    refine wBlock ?_
    refine wSeq ?_
    refine wRegion ?_
    (apply rixv rfl rfl rfl rfl; (first | rfl | assumption | ((simp (disch := omega) only [app, upd, hp, if_pos, if_neg]); first | rfl | assumption)); rfl; (first | omega | assumption | (focus (simp; omega))); (first | omega | assumption | (focus (simp; omega))); rfl; rfl; rfl)
    (apply rlc (v := .int .u8 (bt (takeS x k).1 i)) rfl rfl; (simp (disch := omega) only [app, upd, if_pos, if_neg]; rfl); exact byteRow (by omega); rfl; rfl; rfl; rfl; rfl)
    refine raI rfl rfl rfl rfl rfl ?_
    refine rNil ?_
    refine qSeq ?_
    refine wRegion ?_
    refine rmI rfl rfl rfl rfl rfl ?_
    refine rshl rfl rfl rfl ?_ rfl rfl rfl ?_
    · (first | omega | assumption | (focus (simp; omega)))
    refine rmI rfl rfl rfl rfl rfl ?_
    refine rcvF rfl rfl rfl rfl ?_ ?_ rfl rfl rfl ?_
    · (first | exact bt_ge _ _ | exact bt_le _ _ | omega)
    · (first | exact bt_ge _ _ | exact bt_le _ _ | omega)
    refine ror rfl rfl rfl rfl rfl rfl ?_
    refine raI (k := .i64) (a := be (takeS x k).1 0 (i + 1)) rfl (congrArg (V.int .i64) (bits_or8 (be_0 _ _ _) (be_3 _ _ _ (by omega)) (bt_0 _ _) (bt_255 _ _))) rfl rfl rfl ?_
    refine rNil ?_
    refine qBlock ?_
    refine qSeq ?_
    refine wRegion ?_
    refine raddF rfl rfl rfl ?_ ?_ rfl rfl rfl ?_
    · (first | omega | assumption | (focus (simp; omega)))
    · (first | omega | assumption | (focus (simp; omega)))
    refine rmI rfl rfl rfl rfl rfl ?_
    refine rNil ?_
    refine qLoop ?_
    exact wlN (ih (i + 1) (by omega) (by omega)) (by (repeat first | exact LE.nil _ | refine LE.unk _ _ ?_ | refine LE.eq _ _ _ rfl ?_))
  · refine rNil ?_
    refine qSeq ?_
    refine wSeq ?_
    refine wF rfl ?_
    refine wExit ?_
    refine qSeqX ?_
    refine qLoopX ?_
    refine qBlockX ?_
    refine qSeq ?_
    refine wSeq ?_
    refine wRegion ?_
    refine rmI rfl rfl rfl rfl rfl ?_
    refine raI rfl rfl rfl rfl rfl ?_
    refine rNil ?_
    refine qSeq ?_
    refine wRet ?_
    obtain rfl : i = (takeS x k).1.size := by omega
    exact finO rfl rfl (fun hz => lessNew (LessH.refl _) (by simp (disch := omega) only [app, upd, if_neg]; exact hz _ (Nat.le_refl _))) (Nat.le_refl _)
end Go.Proofs.Ytnkpjlpappmccaa
